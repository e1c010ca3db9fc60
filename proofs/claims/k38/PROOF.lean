import PyProof.Rows.All
import PyProof.ReprRoads
import Wide.All
import OpenK.AllK
import Wide.FinOn
import HandS.ForMost
import HandS.Gcd
import HandS.Wide
import HandS.Deep
import HandS.IsInst
import HandS.Style
import HandS.TupAny
import HandS.Flow
import HandS.TupSets
import KE.SortData
import KE.DataCmp
import HandS.AnyAll
import HandS.TupMul
import KE.KMathG
import KE.KTupSum
import HandS.Strs
import KE.DataMinMax
import HandS.Text
import HandS.More
import KE.GoesMore
import HandS.Walk
import HandS.NoneIn
import HandS.Rev
import HandS.Zip
import KE.KDictSum
import KE.KDictWalk
import HandS.DictComp
import HandS.Conv
import HandS.EndTab
import HandS.EndOwn
import PySem.Challenge.RW_fareyhouse_k38_whole_gamma_one_and_gamma
set_option Elab.async false
set_option linter.all false
set_option maxRecDepth 100000
set_option maxHeartbeats 0
set_option exponentiation.threshold 5000
/-! A pure evaluator for the part of Python in which these programs are written: trees that a checker compares with the program's own syntax. -/
namespace Fh
open PySem L2 PySem.Spec PyProof.Rows

abbrev PD := PyData
/-- the datum that stands for the law's state -/
def tokD : PD := .dict [(.none, .none)]

inductive BOp | add | sub | mul | fdiv | mod | pow | shl | rep
  deriving DecidableEq
inductive COp | eq | ne | lt | le | gt | ge | inn | nin
  deriving DecidableEq
/-- built-in functions of evaluated arguments -/
inductive Bi | len | abs | max2 | min2 | maxL | minL | sum | int | str | list | tuple | sorted | gcd | isqrt | isList | isTuple | isBool | isInt | isStr | all | any | lenSet | sortedSet
  deriving DecidableEq
/-- methods of built-in types -/
inductive Me | index | count | join
  deriving DecidableEq
/-- targets -/
inductive Tg
  | name (i : Nat)
  | nil
  | cons (a r : Tg)      -- (a, ..): a tuple's targets; its rest is nil or cons
  deriving DecidableEq

/-- tests of an int that only look: against a number, its size against a constant of the top -/
inductive Qt
  | cmp (o : COp) (k : Int)
  | abs (o : COp) (c : Nat)
  deriving DecidableEq

mutual
inductive E
  | int (i : Int) | str (s : Str) | bl (b : Bool) | non
  | v (i : Nat)
  | pk (i : Nat)
  | con (c : Nat)
  | bin (o : BOp) (a b : E)
  | neg (a : E)
  | cmp (o : COp) (a b : E)
  | ch (o p : COp) (a b c : E)
  | ch3 (o p q : COp) (a b c d : E)
  | isN (neg : Bool) (a : E)
  | isB (neg : Bool) (b : Bool) (a : E)
  | nt (a : E)
  | ands (es : Es)
  | ors (es : Es)
  | ite (t a b : E)
  | tup (es : Es)
  | lst (es : Es)
  | ix (a i : E)
  | sl (a lo hi : E)         -- non: the part is left out
  | rv (a : E)               -- a[::-1] of a list or a text
  | call (f : Nat) (es : Es)
  | gx (al : Bool) (a : E) (t : Qt)      -- all(..), any(..) of a generator over a tuple of ints
  | bi (b : Bi) (es : Es)
  | me (m : Me) (a : E) (es : Es)
  | ss (a : E)               -- sorted(set(a))
  | ls (a : E)               -- len(set(a)), a list of texts
  | lr (tp : Bool) (a : E)   -- list(range(a)), tuple(range(a))
  | rp (a : E)               -- repr(a), a list or a tuple
  | dix (ks : List Str) (vs : Es) (x : E)   -- {k: v, ..}[x], texts as keys
  | cix (c : Nat) (x : E)                   -- C[x], C a dict of the top with texts as keys
  | lc (tg : Tg) (it : Ir) (c : E) (elt : E)      -- c = bl true: no test
  | din (neg : Bool) (i : Nat) (a : E)            -- a in x, x an owned dict
  | dgt (i : Nat) (a : E)                         -- x[a]
  | dks (i : Nat)                                 -- sorted(x)
  | dln (i : Nat)                                 -- len(x), x an owned dict of ints, texts
  | vgt (a i : E)                                 -- a[i], a a dict as a value
  | vin (neg : Bool) (a d : E)                    -- a in d, d a dict as a value
inductive Es
  | nil
  | cons (e : E) (es : Es)
inductive Ir
  | rng1 (a : E)
  | rng2 (a b : E)
  | rngC (a b : E) (c : Int)   -- range(a, b, c), c written
  | seq (e : E)
  | enum (e : E)
  | zip (a b : E)
  | rev (e : E)
end

mutual
inductive S
  | set (i : Nat) (e : E)
  | own (i : Nat) (e : E)
  | unp (tg : Tg) (e : E)
  | par2 (i j : Nat) (a b : E)
  | par3 (i j k : Nat) (a b c : E)
  | stx (i : Nat) (k e : E)          -- x[k] = e, x an owned list
  | app (i : Nat) (e : E)            -- x.append(e)
  | pop (i : Nat)                    -- x.pop()
  | setPop (j i : Nat)               -- y = x.pop()
  | popAdd (j i : Nat) (k : Int)     -- y = y + x.pop()[k]
  | aug (i : Nat) (o : BOp) (e : E)  -- x += e, numbers
  | dnew (i n : Nat)                 -- x = {}: keys are ints and texts, or tuples of n of them
  | ddis (i : Nat) (ks : List Str) (es : Es)   -- x = {"..": .., ..}
  | dd1 (i n : Nat) (k e : E)        -- x = {k: e}
  | dcmp (i n : Nat) (tg : Tg) (it : Ir) (c k e : E)   -- x = {k: e for tg in it if c}
  | dst (i : Nat) (k e : E)          -- x[k] = e, x an owned dict
  | die                              -- not reached
  | expr (e : E)
  | ret (e : E)
  | retN
  | ife (t : E) (a b : Ss)
  | whl (t : E) (b : Ss)
  | fr (tg : Tg) (it : Ir) (b : Ss)
  | brk | cont | pass
inductive Ss
  | nil
  | cons (s : S) (r : Ss)
  | frz (i : Nat) (r : Ss)
end

/-- what a name holds: a shared datum, or a list that no other name or datum holds -/
inductive Sl
  | sh (d : PD)
  | ow (xs : List PD)
  | od (n : Nat) (kvs : List (List L2.Key × PD))
/-- no other name or datum holds it -/
def Sl.own : Sl → Bool
  | .sh _ => false
  | _ => true
abbrev Ev := List (Option Sl)

structure Glob (T : Type) where
  call : Nat → List PD → T → Option (PD × T)
  con : Nat → Option PD
  dct : Nat → Str → Option PD

/-! ### values -/
def truth : PD → Option Bool
  | .none => some false
  | .bool b => some b
  | .int i => some (i != 0)
  | .str s => if s.length ≤ sizeLine then some (s.length != 0) else none
  | .list xs => some (!xs.isEmpty)
  | .tuple xs => some (!xs.isEmpty)
  | .dict _ => none

def okMul (i j : Int) : Bool := decide (i.natAbs.log2 + j.natAbs.log2 < 1000000)
def okLen (n : Nat) : Bool := decide (n ≤ sizeLine)

def bop : BOp → PD → PD → Option PD
  | .add, .int i, .int j => some (.int (i + j))
  | .add, .str x, .str y => if okLen (x.length + y.length) then some (.str (x ++ y)) else none
  | .add, .list xs, .list ys => if okLen (xs.length + ys.length) then some (.list (xs ++ ys)) else none
  | .add, .tuple xs, .tuple ys => if okLen (xs.length + ys.length) then some (.tuple (xs ++ ys)) else none
  | .sub, .int i, .int j => some (.int (i - j))
  | .mul, .int i, .int j => if okMul i j then some (.int (i * j)) else none
  | .mul, .tuple xs, .int k => if k = 1 then some (.tuple xs) else if !xs.isEmpty && decide (2 ≤ k) && decide (k ≤ 1000) && decide (xs.length ≤ 1000) then some (.tuple (List.replicate k.toNat xs).flatten) else none
  | .rep, .list xs, .int k => if decide (k < 2 ^ 32) && decide (-(2 ^ 32) < k) && okLen (xs.length * k.toNat) then some (.list (List.replicate k.toNat xs).flatten) else none
  | .fdiv, .int i, .int j => if decide (j ≠ 0) && decide (j.natAbs.log2 < 9000) then some (.int (i.fdiv j)) else none
  | .mod, .int i, .int j => if j = 0 then none else some (.int (i.fmod j))
  | .pow, .int i, .int j => if decide (0 ≤ j) && decide (j ≤ 1000000) && decide (i.natAbs < 2 ^ 64) then some (.int (i ^ j.toNat)) else none
  | .shl, .int i, .int j => if decide (0 ≤ j) && decide (j ≤ 1000000) && decide (i.natAbs < 2 ^ 64) then some (.int (i * 2 ^ j.toNat)) else none
  | _, _, _ => none

/-- a text's signs, by numbers -/
def natLt : List Nat → List Nat → Bool
  | [], [] => false
  | [], _ :: _ => true
  | _ :: _, [] => false
  | x :: xs, y :: ys => if x = y then natLt xs ys else decide (x < y)
mutual
/-- x < y, the two of one kind -/
def pLt : PD → PD → Bool
  | .int a, .int b => decide (a < b)
  | .bool a, .bool b => !a && b
  | .str a, .str b => natLt a.cps.toList b.cps.toList
  | .list xs, .list ys => pLtA xs ys
  | .tuple xs, .tuple ys => pLtA xs ys
  | _, _ => false
def pLtA : List PD → List PD → Bool
  | x :: xs, y :: ys => if PyData.eqv x y then pLtA xs ys else pLt x y
  | [], _ :: _ => true
  | _, [] => false
end
def isNone : PD → Bool
  | .none => true
  | _ => false
def isTup1 : PD → Bool
  | .tuple (_ :: _) => true
  | _ => false
def isTup : PD → Bool
  | .tuple _ => true
  | _ => false
/-- the two can be ordered -/
def okCmp (d e : PD) : Bool := PySem.W.alike d e && !isNone d && SeqAt.shaped d && SeqAt.shaped e
def insSort {α : Type} (le : α → α → Bool) : List α → List α
  | [] => []
  | x :: r => ins x (insSort le r)
where ins (x : α) : List α → List α
  | [] => [x]
  | y :: r => if le x y then x :: y :: r else y :: ins x r
def intsOfT : PD → Option (List Int)
  | .tuple xs => go xs
  | _ => none
where go : List PD → Option (List Int)
  | [] => some []
  | .int i :: r => (go r).map (i :: ·)
  | _ :: _ => none
def isInt : PD → Bool
  | .int _ => true
  | _ => false
def isStrD : PD → Bool
  | .str s => (PyData.str s).canLay0
  | _ => false
def isIntT : PD → Bool
  | .tuple (x :: xs) => isInt x && xs.all isInt
  | _ => false
/-- a list's items can be sorted -/
def sortable (xs : List PD) : Bool := xs.all isInt || xs.all isStrD || xs.all isIntT ||
  (xs.all (fun x => xs.all fun y => PySem.W.alike x y) && (xs.all isTup1 || xs.all fun x => !isNone x && !isTup x) && xs.all fun x => SeqAt.shaped x && decide (x.depth ≤ 60))
def sortD (xs : List PD) : List PD := insSort (fun a b => !pLt b a) xs
def addS (l : List Str) (x : Str) : List Str := if x ∈ l then l else l ++ [x]
/-- each text once -/
def dedS (xs : List Str) : List Str := xs.foldl addS []
def tupsOf : List PD → Option (List (List Int))
  | [] => some []
  | x :: r => (intsOfT x).bind fun a => (tupsOf r).map (a :: ·)
def dedup : List (List Int) → List (List Int)
  | [] => []
  | x :: r => if r.elem x then dedup r else x :: dedup r
def bdOf (ts : List (List Int)) : Int := ts.foldl (fun m t => t.foldl (fun m i => if i < m then m else i + 1) m) 0
/-- sorted(set(xs)), xs of tuples of ints -/
def sortSet (xs : List PD) : Option (List PD) := (tupsOf xs).bind fun ts =>
  if decide (ts.length < 64) && (match ts with | [] => true | t :: _ => decide (1 ≤ t.length) && ts.all fun u => decide (u.length = t.length)) && ts.all (fun u => u.all fun i => decide (0 ≤ i) && decide (i < bdOf ts))
  then some ((insSort (fun a b => decide (TS.code (bdOf ts) a ≤ TS.code (bdOf ts) b)) (dedup ts)).map fun t => .tuple (t.map .int)) else none

def cop : COp → PD → PD → Option Bool
  | .eq, d, e => if SeqAt.shaped d && SeqAt.shaped e then some (PyData.eqv d e) else none
  | .ne, d, e => if SeqAt.shaped d && SeqAt.shaped e then some (!PyData.eqv d e) else none
  | .lt, .int i, .int j => some (decide (i < j))
  | .le, .int i, .int j => some (decide (i ≤ j))
  | .gt, .int i, .int j => some (decide (j < i))
  | .ge, .int i, .int j => some (decide (j ≤ i))
  | .inn, d, .list ds => if SeqAt.shaped d && SeqAt.shaped (.list ds) then some (ds.any fun z => PyData.eqv z d) else none
  | .nin, d, .list ds => if SeqAt.shaped d && SeqAt.shaped (.list ds) then some (!ds.any fun z => PyData.eqv z d) else none
  | .inn, d, .tuple ds => if SeqAt.shaped d && SeqAt.shaped (.tuple ds) then some (ds.any fun z => PyData.eqv z d) else none
  | .nin, d, .tuple ds => if SeqAt.shaped d && SeqAt.shaped (.tuple ds) then some (!ds.any fun z => PyData.eqv z d) else none
  | .lt, d, e => if okCmp d e then some (pLt d e) else none
  | .le, d, e => if okCmp d e then some (!pLt e d) else none
  | .gt, d, e => if okCmp d e then some (pLt e d) else none
  | .ge, d, e => if okCmp d e then some (!pLt d e) else none
  | _, _, _ => none

def intsOf : List PD → Option (List Int)
  | [] => some []
  | .int i :: r => (intsOf r).map (i :: ·)
  | _ :: _ => none
def boolsOf : List PD → Option (List Bool)
  | [] => some []
  | .bool i :: r => (boolsOf r).map (i :: ·)
  | _ :: _ => none
def strsOf : List PD → Option (List Str)
  | [] => some []
  | .str i :: r => (strsOf r).map (i :: ·)
  | _ :: _ => none

def maxI : Int → List Int → Int
  | m, [] => m
  | m, x :: r => maxI (if x > m then x else m) r
def minI : Int → List Int → Int
  | m, [] => m
  | m, x :: r => minI (if x < m then x else m) r

/-- the first of the least -/
def minP (x : PD) (xs : List PD) : PD := xs.foldl (fun a y => if pLt y a then y else a) x
def maxP (x : PD) (xs : List PD) : PD := xs.foldl (fun a y => if pLt a y then y else a) x
def minable (xs : List PD) : Bool := xs.all isStrD || xs.all isIntT
def biD : Bi → List PD → Option PD
  | .len, [.list xs] => some (.int xs.length)
  | .len, [.tuple xs] => some (.int xs.length)
  | .len, [.str s] => if okLen s.length then some (.int s.length) else none
  | .abs, [.int i] => some (.int (if i < 0 then -i else i))
  | .max2, [.int i, .int j] => some (.int (if j > i then j else i))
  | .min2, [.int i, .int j] => some (.int (if j < i then j else i))
  | .maxL, [.list xs] => match intsOf xs with | some (x :: r) => some (.int (maxI x r)) | _ => match xs with | x :: r => if minable (x :: r) then some (maxP x r) else none | [] => none
  | .minL, [.list xs] => match intsOf xs with | some (x :: r) => some (.int (minI x r)) | _ => match xs with | x :: r => if minable (x :: r) then some (minP x r) else none | [] => none
  | .maxL, [.tuple xs] => match xs with | x :: r => if (x :: r).all isInt then some (maxP x r) else none | [] => none
  | .minL, [.tuple xs] => match xs with | x :: r => if (x :: r).all isInt then some (minP x r) else none | [] => none
  | .max2, [.tuple xs, .tuple ys] => if isIntT (.tuple xs) && isIntT (.tuple ys) then some (if pLt (.tuple xs) (.tuple ys) then .tuple ys else .tuple xs) else none
  | .min2, [.tuple xs, .tuple ys] => if isIntT (.tuple xs) && isIntT (.tuple ys) then some (if pLt (.tuple ys) (.tuple xs) then .tuple ys else .tuple xs) else none
  | .sum, [.list xs] => (intsOf xs).map fun ns => .int ns.sum
  | .sum, [.tuple xs] => (intsOf xs).map fun ns => .int ns.sum
  | .int, [.int i] => some (.int i)
  | .int, [.bool b] => some (.int (if b then 1 else 0))
  | .str, [.int i] => if decide (i.natAbs.log2 < 1920) then some (.str (toString i)) else none
  | .int, [.str a] => if decide (a.length ≤ 640) then (PySem.intText? a).map fun n => .int n else none
  | .sorted, [.list xs] => if sortable xs then some (.list (sortD xs)) else none
  | .sorted, [.tuple xs] => if sortable xs then some (.list (sortD xs)) else none
  | .list, [.list xs] => some (.list xs)
  | .list, [.tuple xs] => some (.list xs)
  | .tuple, [.list xs] => some (.tuple xs)
  | .tuple, [.tuple xs] => some (.tuple xs)
  | .gcd, [.int a, .int b] => some (.int ((Nat.gcd a.natAbs b.natAbs : Nat) : Int))
  | .isqrt, [.int a] => if decide (0 ≤ a) && decide (a < 18446744073709551616) then some (.int (PySem.Float64.isqrt a.toNat : Nat)) else none
  | .all, [.list xs] => (boolsOf xs).map fun bs => .bool (bs.all id)
  | .any, [.list xs] => (boolsOf xs).map fun bs => .bool (bs.any id)
  | .isList, [d] => match d with | .list _ => some (.bool true) | .dict _ => none | _ => some (.bool false)
  | .isTuple, [d] => match d with | .tuple _ => some (.bool true) | .dict _ => none | _ => some (.bool false)
  | .isBool, [d] => match d with | .bool _ => some (.bool true) | .dict _ => none | _ => some (.bool false)
  | .isInt, [d] => match d with | .bool _ => some (.bool true) | .int _ => some (.bool true) | .dict _ => none | _ => some (.bool false)
  | .isStr, [d] => match d with | .str _ => some (.bool true) | .dict _ => none | _ => some (.bool false)
  | _, _ => none

/-- a text's value among the pairs of a display; the last one of a key counts -/
def pickD : List Str → List PD → Str → Option PD → Option PD
  | k :: ks, d :: ds, z, o => pickD ks ds z (if k = z then some d else o)
  | _, _, _, o => o
/-- what may be told as a text: a list or a tuple -/
def reprOk (d : PD) : Bool := d.canLay0 && d.showable && !d.hasDict && decide (d.depth ≤ 60) && decide (d.shown.length ≤ sizeLine)
def reprD : PD → Option PD
  | .list ds => if reprOk (.list ds) then some (.str (PyData.list ds).shown) else none
  | .tuple ds => if reprOk (.tuple ds) then some (.str (PyData.tuple ds).shown) else none
  | _ => none
/-- x[i] -/
def pix : PD → PD → Option PD
  | .list xs, .int i => atI xs i
  | .tuple xs, .int i => atI xs i
  | .str z, .int i => if okLen z.length then (atI z.cps.toList i).map fun c => .str ⟨#[c]⟩ else none
  | _, _ => none
/-- a text's signs, last ones first -/
def revS (z : Str) : Str := ⟨z.cps.toList.reverse.toArray⟩
def cutD (xs : List PD) (lo hi : Option Int) : List PD := (xs.drop (HT.sIx xs.length 0 lo)).take (HT.sIx xs.length xs.length hi - HT.sIx xs.length 0 lo)
def partOf (m : E) (d : PD) : Option (Option Int) := match m with
  | .non => some none
  | _ => match d with
    | .int i => some (some i)
    | _ => none
def psl : PD → Option Int → Option Int → Option PD
  | .list xs, lo, hi => some (.list (cutD xs lo hi))
  | .tuple xs, lo, hi => some (.tuple (cutD xs lo hi))
  | .str z, lo, hi => if okLen z.length then some (.str (cutS z lo hi)) else none
  | _, _, _ => none
def pme : Me → PD → List PD → Option PD
  | .join, .str a, [.list xs] => match strsOf xs with
    | some ys => if decide ((ys.map (·.length)).sum + ys.length * a.length ≤ 16777216) then some (.str (Txt.join a ys)) else none
    | none => none
  | .count, .str a, [.str b] => some (.int (Txt.count a b))
  | .index, .list ds, [d] => if SeqAt.shaped d && SeqAt.shaped (.list ds) then (ds.findIdx? fun z => PyData.eqv z d).map fun j => .int (j : Nat) else none
  | _, _, _ => none

/-! ### names -/
def get (ρ : Ev) (i : Nat) : Option PD := match ρ[i]? with | some (some (.sh d)) => some d | _ => none
def peek (ρ : Ev) (i : Nat) : Option PD := match ρ[i]? with | some (some (.sh d)) => some d | some (some (.ow xs)) => some (.list xs) | _ => none
def put (ρ : Ev) (i : Nat) (s : Sl) : Ev := ρ.set i (some s)
/-! dicts: keys are ints and texts (n = 0), or tuples of n of them -/
def getD (ρ : Ev) (i : Nat) : Option (Nat × List (List L2.Key × PD)) := match ρ[i]? with | some (some (.od n kvs)) => some (n, kvs) | _ => none
def keyP : PD → Option L2.Key
  | .int i => some (.inl i)
  | .str s => some (.inr s)
  | _ => none
def keysP : List PD → Option (List L2.Key)
  | [] => some []
  | d :: ds => (keyP d).bind fun k => (keysP ds).map (k :: ·)
def keyD (n : Nat) (d : PD) : Option (List L2.Key) := if n = 0 then (keyP d).map ([·]) else match d with
  | .tuple xs => if xs.length = n then keysP xs else none
  | _ => none
def valD (kvs : List (List L2.Key × PD)) (k : List L2.Key) : Option PD := (kvs.find? fun kv => decide (kv.1 = k)).map (·.2)
def putD (kvs : List (List L2.Key × PD)) (k : List L2.Key) (d : PD) : List (List L2.Key × PD) :=
  if (kvs.any fun kv => decide (kv.1 = k)) = true then kvs.map (fun kv => if kv.1 = k then (kv.1, d) else kv) else kvs ++ [(k, d)]
def keyPD : L2.Key → PD
  | .inl i => .int i
  | .inr s => .str s
def keyOut (n : Nat) (k : List L2.Key) : PD := if n = 0 then (match k with | [x] => keyPD x | _ => .none) else .tuple (k.map keyPD)
def disK : List Str → List PD → List (List L2.Key × PD) → List (List L2.Key × PD)
  | k :: ks, d :: ds, acc => disK ks ds (putD acc [.inr k] d)
  | _, _, acc => acc
/-- a dict as a value: ahead stands how many entries its keys have -/
def dictD (n : Nat) (m : List (PD × PD)) : PD := .dict ((.none, .int (n : Int)) :: m)
def mPD (n : Nat) (kvs : List (List L2.Key × PD)) : List (PD × PD) := kvs.map fun kv => (keyOut n kv.1, kv.2)
def dictOf : PD → Option (Nat × List (PD × PD))
  | .dict ((.none, .int n) :: m) => if 0 ≤ n then some (n.toNat, m) else none
  | _ => none
def valM (n : Nat) (m : List (PD × PD)) (k : List L2.Key) : Option PD := (m.find? fun kv => decide (keyD n kv.1 = some k)).map (·.2)
def Tg.slots : Tg → List Nat
  | .name i => [i]
  | .nil => []
  | .cons a r => a.slots ++ r.slots
/-- bind d to a target -/
def bindT : Tg → PD → Ev → Option Ev
  | .name i, d, ρ => if i < ρ.length then some (put ρ i (.sh d)) else none
  | .nil, .tuple [], ρ => some ρ
  | .nil, .list [], ρ => some ρ
  | .cons a r, .tuple (d :: ds), ρ => (bindT a d ρ).bind fun ρ1 => bindT r (.tuple ds) ρ1
  | .cons a r, .list (d :: ds), ρ => (bindT a d ρ).bind fun ρ1 => bindT r (.tuple ds) ρ1
  | _, _, _ => none
def wipeE (ρ : Ev) : List Nat → Ev
  | [] => ρ
  | v :: vs => (wipeE ρ vs).set v none

def rangeD (lo : Int) : Nat → List PD
  | 0 => []
  | n + 1 => .int lo :: rangeD (lo + 1) n
def smallR (i : Int) : Bool := decide (-(2 ^ 62) ≤ i) && decide (i < 2 ^ 62)
def enumD : Int → List PD → List PD
  | _, [] => []
  | i, d :: ds => .tuple [.int i, d] :: enumD (i + 1) ds
def zipD : List PD → List PD → List PD
  | a :: as, b :: bs => .tuple [a, b] :: zipD as bs
  | _, _ => []
def stepD (lo c : Int) : Nat → List PD
  | 0 => []
  | n + 1 => .int lo :: stepD (lo + c) c n
/-- a constant tuple that is no key -/
def conD (ds : List PD) : PD := .dict ((.none, .bool true) :: ds.map fun d => (.none, d))
def itemsOf : PD → Option (List PD)
  | .list xs => some xs
  | .tuple xs => some xs
  | .dict ((.none, .bool true) :: m) => some (m.map (·.2))
  | .str s => if okLen s.length then some (s.cps.toList.map fun c => .str ⟨#[c]⟩) else none
  | _ => none

/-- the kept elements of a comprehension -/
def lcLoop {T : Type} (step : PD → T → Option (Option PD × T)) : List PD → T → Option (List PD × T)
  | [], τ => some ([], τ)
  | d :: ds, τ => (step d τ).bind fun p => (lcLoop step ds p.2).bind fun q => some ((match p.1 with | some x => x :: q.1 | none => q.1), q.2)

/-- the pairs of a dict comprehension -/
def dcLoop {T : Type} (n : Nat) (step : PD → T → Option (Option (PD × PD) × T)) : List PD → List (List L2.Key × PD) → T → Option (List (List L2.Key × PD) × T)
  | [], kvs, τ => some (kvs, τ)
  | d :: ds, kvs, τ => (step d τ).bind fun p => match p.1 with
    | some kv => (keyD n kv.1).bind fun kk => dcLoop n step ds (putD kvs kk kv.2) p.2
    | none => dcLoop n step ds kvs p.2
/-- what a test says -/
def qop : COp → Int → Option (Int → Bool)
  | .eq, k => some fun i => i == k
  | .ne, k => some fun i => i != k
  | .lt, k => some fun i => decide (i < k)
  | .le, k => some fun i => decide (i ≤ k)
  | .gt, k => some fun i => decide (i > k)
  | .ge, k => some fun i => decide (i ≥ k)
  | _, _ => none
def qfn (con : Nat → Option PD) : Qt → Option (Int → Bool)
  | .cmp o k => qop o k
  | .abs o c => match con c with
    | some (.int k) => (qop o k).map fun f i => f (if i < 0 then -i else i)
    | _ => none
def gxD (al : Bool) : PD → Option (Int → Bool) → Option Bool
  | .tuple xs, some f => (intsOf xs).map fun l => if al then l.all f else l.any f
  | _, _ => none
section
variable {T : Type} (g : Glob T)
mutual
def ev : E → Ev → T → Option (PD × T)
  | .int i, _, τ => some (.int i, τ)
  | .str s, _, τ => some (.str s, τ)
  | .bl b, _, τ => some (.bool b, τ)
  | .non, _, τ => some (.none, τ)
  | .v i, ρ, τ => (get ρ i).map fun d => (d, τ)
  | .pk i, ρ, τ => (peek ρ i).map fun d => (d, τ)
  | .con c, _, τ => (g.con c).map fun d => (d, τ)
  | .bin o a b, ρ, τ => (ev a ρ τ).bind fun p => (ev b ρ p.2).bind fun q => (bop o p.1 q.1).map fun d => (d, q.2)
  | .neg a, ρ, τ => (ev a ρ τ).bind fun p => match p.1 with | .int i => some (.int (-i), p.2) | _ => none
  | .cmp o a b, ρ, τ => (ev a ρ τ).bind fun p => (ev b ρ p.2).bind fun q => (cop o p.1 q.1).map fun c => (.bool c, q.2)
  | .ch o o2 a b c, ρ, τ => (ev a ρ τ).bind fun p => (ev b ρ p.2).bind fun q => (cop o p.1 q.1).bind fun k =>
      if k then (ev c ρ q.2).bind fun r => (cop o2 q.1 r.1).map fun k2 => (.bool k2, r.2) else some (.bool false, q.2)
  | .ch3 o o2 o3 a b c d, ρ, τ => (ev a ρ τ).bind fun p => (ev b ρ p.2).bind fun q => (cop o p.1 q.1).bind fun k =>
      if k then (ev c ρ q.2).bind fun r => (cop o2 q.1 r.1).bind fun k2 => if k2 then (ev d ρ r.2).bind fun s => (cop o3 r.1 s.1).map fun k3 => (.bool k3, s.2) else some (.bool false, r.2) else some (.bool false, q.2)
  | .isN n a, ρ, τ => (ev a ρ τ).bind fun p => match p.1 with | .none => some (.bool (!n), p.2) | .dict _ => none | _ => some (.bool n, p.2)
  | .isB n b a, ρ, τ => (ev a ρ τ).bind fun p => match p.1 with | .bool c => some (.bool ((c == b) != n), p.2) | _ => none
  | .nt a, ρ, τ => (ev a ρ τ).bind fun p => (truth p.1).map fun b => (.bool (!b), p.2)
  | .ands es, ρ, τ => evAnd es ρ τ
  | .ors es, ρ, τ => evOr es ρ τ
  | .ite t a b, ρ, τ => (ev t ρ τ).bind fun p => (truth p.1).bind fun b' => if b' then ev a ρ p.2 else ev b ρ p.2
  | .tup es, ρ, τ => (evs es ρ τ).bind fun p => if okLen p.1.length then some (.tuple p.1, p.2) else none
  | .lst es, ρ, τ => (evs es ρ τ).bind fun p => if okLen p.1.length then some (.list p.1, p.2) else none
  | .ix a i, ρ, τ => (ev a ρ τ).bind fun p => (ev i ρ p.2).bind fun q => (pix p.1 q.1).map fun d => (d, q.2)
  | .sl a lo hi, ρ, τ => (ev a ρ τ).bind fun p => (ev lo ρ p.2).bind fun q => (ev hi ρ q.2).bind fun r =>
      (partOf lo q.1).bind fun l => (partOf hi r.1).bind fun h => (psl p.1 l h).map fun d => (d, r.2)
  | .rv a, ρ, τ => (ev a ρ τ).bind fun p => match p.1 with | .list xs => some (.list xs.reverse, p.2) | .str z => if okLen z.length then some (.str (revS z), p.2) else none | _ => none
  | .call f es, ρ, τ => (evs es ρ τ).bind fun p => g.call f p.1 p.2
  | .gx al a t, ρ, τ => (ev a ρ τ).bind fun p => (gxD al p.1 (qfn g.con t)).map fun b => (.bool b, p.2)
  | .bi b es, ρ, τ => (evs es ρ τ).bind fun p => (biD b p.1).map fun d => (d, p.2)
  | .me m a es, ρ, τ => (ev a ρ τ).bind fun p => (evs es ρ p.2).bind fun q => (pme m p.1 q.1).map fun d => (d, q.2)
  | .dix ks vs x, ρ, τ => (evs vs ρ τ).bind fun p => (ev x ρ p.2).bind fun q => match q.1 with | .str z => (pickD ks p.1 z none).map fun d => (d, q.2) | _ => none
  | .cix c x, ρ, τ => (ev x ρ τ).bind fun q => match q.1 with | .str z => (g.dct c z).map fun d => (d, q.2) | _ => none
  | .lr tp a, ρ, τ => (ev a ρ τ).bind fun p => match p.1 with | .int j => if smallR j && okLen j.toNat then some ((if tp then PyData.tuple (rangeD 0 j.toNat) else .list (rangeD 0 j.toNat)), p.2) else none | _ => none
  | .ls a, ρ, τ => (ev a ρ τ).bind fun p => match p.1 with | .list xs => (strsOf xs).bind fun ss => if decide (ss.length ≤ 1000) then some (.int (dedS ss).length, p.2) else none | _ => none
  | .ss a, ρ, τ => (ev a ρ τ).bind fun p => match p.1 with | .list xs => (sortSet xs).map fun ys => (.list ys, p.2) | _ => none
  | .rp a, ρ, τ => (ev a ρ τ).bind fun p => (reprD p.1).map fun d => (d, p.2)
  | .lc tg it c elt, ρ, τ => (items it ρ τ).bind fun p => if okLen p.1.length then
      (lcLoop (fun d τ => (bindT tg d (wipeE ρ tg.slots)).bind fun ρ1 => (ev c ρ1 τ).bind fun q => (truth q.1).bind fun b => if b then (ev elt ρ1 q.2).map fun r => (some r.1, r.2) else some (none, q.2)) p.1 p.2).map fun r => (.list r.1, r.2) else none
  | .din neg i a, ρ, τ => (ev a ρ τ).bind fun p => (getD ρ i).bind fun q => (keyD q.1 p.1).map fun k => (.bool ((valD q.2 k).isSome != neg), p.2)
  | .dgt i a, ρ, τ => (ev a ρ τ).bind fun p => (getD ρ i).bind fun q => (keyD q.1 p.1).bind fun k => (valD q.2 k).map fun d => (d, p.2)
  | .dln i, ρ, τ => (getD ρ i).bind fun q => if q.1 = 0 then some (.int (q.2.length : Nat), τ) else none
  | .vgt a i, ρ, τ => (ev a ρ τ).bind fun p => (ev i ρ p.2).bind fun q => (dictOf p.1).bind fun r => (keyD r.1 q.1).bind fun kk => (valM r.1 r.2 kk).map fun d => (d, q.2)
  | .vin n a b, ρ, τ => (ev a ρ τ).bind fun p => (ev b ρ p.2).bind fun q => (dictOf q.1).bind fun r => (keyD r.1 p.1).map fun kk => (.bool ((valM r.1 r.2 kk).isSome != n), q.2)
  | .dks i, ρ, τ => (getD ρ i).bind fun q => if decide (q.1 ≠ 0) && sortable (q.2.map fun kv => keyOut q.1 kv.1) then some (.list (sortD (q.2.map fun kv => keyOut q.1 kv.1)), τ) else none
def evs : Es → Ev → T → Option (List PD × T)
  | .nil, _, τ => some ([], τ)
  | .cons e es, ρ, τ => (ev e ρ τ).bind fun p => (evs es ρ p.2).map fun q => (p.1 :: q.1, q.2)
def evAnd : Es → Ev → T → Option (PD × T)
  | .nil, _, _ => none
  | .cons e es, ρ, τ => (ev e ρ τ).bind fun p => match es with
    | .nil => some p
    | .cons _ _ => (truth p.1).bind fun b => if b then evAnd es ρ p.2 else some p
def evOr : Es → Ev → T → Option (PD × T)
  | .nil, _, _ => none
  | .cons e es, ρ, τ => (ev e ρ τ).bind fun p => match es with
    | .nil => some p
    | .cons _ _ => (truth p.1).bind fun b => if b then some p else evOr es ρ p.2
def items : Ir → Ev → T → Option (List PD × T)
  | .rng1 a, ρ, τ => (ev a ρ τ).bind fun p => match p.1 with | .int j => if smallR j then some (rangeD 0 j.toNat, p.2) else none | _ => none
  | .rng2 a b, ρ, τ => (ev a ρ τ).bind fun p => (ev b ρ p.2).bind fun q => match p.1, q.1 with | .int i, .int j => if smallR i && smallR j then some (rangeD i (j - i).toNat, q.2) else none | _, _ => none
  | .rngC a b c, ρ, τ => (ev a ρ τ).bind fun p => (ev b ρ p.2).bind fun q => match p.1, q.1 with
      | .int i, .int j => if decide (c ≠ 0) && decide (c.natAbs < 1073741824) && Builtin.Range.small i j c then some (stepD i c (Builtin.Range.rangeSize i j c).toNat, q.2) else none
      | _, _ => none
  | .seq e, ρ, τ => (ev e ρ τ).bind fun p => (itemsOf p.1).map fun ds => (ds, p.2)
  | .enum e, ρ, τ => (ev e ρ τ).bind fun p => match p.1 with | .list xs => some (enumD 0 xs, p.2) | .tuple xs => some (enumD 0 xs, p.2) | _ => none
  | .zip a b, ρ, τ => (ev a ρ τ).bind fun p => (ev b ρ p.2).bind fun q => match p.1, q.1 with | .list xs, .list ys => some (zipD xs ys, q.2) | .tuple xs, .tuple ys => some (zipD xs ys, q.2) | _, _ => none
  | .rev e, ρ, τ => (ev e ρ τ).bind fun p => match p.1 with | .list xs => some (xs.reverse, p.2) | .tuple xs => some (xs.reverse, p.2) | _ => none
end

/-- as a test -/
def evT (e : E) (ρ : Ev) (τ : T) : Option (Bool × T) := (ev g e ρ τ).bind fun p => (truth p.1).map fun b => (b, p.2)

inductive Out (T : Type)
  | nx (ρ : Ev) (τ : T)
  | rt (d : PD) (τ : T)
  | bk (ρ : Ev) (τ : T)
  | ct (ρ : Ev) (τ : T)

def loopF (bd : PD → Ev → Option Ev) (body : Ev → T → Option (Out T)) : List PD → Ev → T → Option (Out T)
  | [], ρ, τ => some (.nx ρ τ)
  | d :: ds, ρ, τ => (bd d ρ).bind fun ρ1 => (body ρ1 τ).bind fun
    | .nx ρ2 τ2 => loopF bd body ds ρ2 τ2
    | .ct ρ2 τ2 => loopF bd body ds ρ2 τ2
    | .bk ρ2 τ2 => some (.nx ρ2 τ2)
    | .rt d τ2 => some (.rt d τ2)
def loopW (t : Ev → T → Option (Bool × T)) (body : Ev → T → Option (Out T)) : Nat → Ev → T → Option (Out T)
  | 0, _, _ => none
  | n + 1, ρ, τ => (t ρ τ).bind fun p => if p.1 then (body ρ p.2).bind fun
    | .nx ρ2 τ2 => loopW t body n ρ2 τ2
    | .ct ρ2 τ2 => loopW t body n ρ2 τ2
    | .bk ρ2 τ2 => some (.nx ρ2 τ2)
    | .rt d τ2 => some (.rt d τ2) else some (.nx ρ p.2)
/-- no while loop of these programs turns more often -/
def FUEL : Nat := 2 ^ 4096

def getO (ρ : Ev) (i : Nat) : Option (List PD) := match ρ[i]? with | some (some (.ow xs)) => some xs | _ => none

mutual
def ex : S → Ev → T → Option (Out T)
  | .set i e, ρ, τ => (ev g e ρ τ).bind fun p => if i < ρ.length then some (.nx (put ρ i (.sh p.1)) p.2) else none
  | .own i e, ρ, τ => (ev g e ρ τ).bind fun p => match p.1 with | .list xs => if i < ρ.length then some (.nx (put ρ i (.ow xs)) p.2) else none | _ => none
  | .unp tg e, ρ, τ => (ev g e ρ τ).bind fun p => (bindT tg p.1 ρ).map fun ρ1 => .nx ρ1 p.2
  | .par2 i j a b, ρ, τ => (ev g a ρ τ).bind fun p => (ev g b ρ p.2).bind fun q => if i < ρ.length ∧ j < ρ.length then some (.nx (put (put ρ i (.sh p.1)) j (.sh q.1)) q.2) else none
  | .par3 i j k a b c, ρ, τ => (ev g a ρ τ).bind fun p => (ev g b ρ p.2).bind fun q => (ev g c ρ q.2).bind fun r => if i < ρ.length ∧ j < ρ.length ∧ k < ρ.length then some (.nx (put (put (put ρ i (.sh p.1)) j (.sh q.1)) k (.sh r.1)) r.2) else none
  | .stx i k e, ρ, τ => (ev g e ρ τ).bind fun p => (ev g k ρ p.2).bind fun q => match getO ρ i, q.1 with
      | some xs, .int n => (ixN xs.length n).map fun j => .nx (put ρ i (.ow (xs.set j p.1))) q.2
      | _, _ => none
  | .app i e, ρ, τ => (ev g e ρ τ).bind fun p => match getO ρ i with
      | some xs => if decide (xs.length < sizeLine) then some (.nx (put ρ i (.ow (xs ++ [p.1]))) p.2) else none
      | _ => none
  | .pop i, ρ, τ => match getO ρ i with
      | some (x :: xs) => some (.nx (put ρ i (.ow ((x :: xs).dropLast))) τ)
      | _ => none
  | .setPop j i, ρ, τ => match getO ρ i with
      | some (x :: xs) => if j < ρ.length ∧ i ≠ j then some (.nx (put (put ρ i (.ow ((x :: xs).dropLast))) j (.sh ((x :: xs).getLast (by simp)))) τ) else none
      | _ => none
  | .popAdd j i k, ρ, τ => match getO ρ i, get ρ j with
      | some (x :: xs), some (.int n) => match (x :: xs).getLast (by simp) with
        | .tuple zs => match atI zs k with
          | some (.int m) => if i ≠ j then some (.nx (put (put ρ i (.ow ((x :: xs).dropLast))) j (.sh (.int (n + m)))) τ) else none
          | _ => none
        | _ => none
      | _, _ => none
  | .aug i o e, ρ, τ => match get ρ i with
      | some (.int n) => (ev g e ρ τ).bind fun p => match o, p.1 with
        | .add, .int m => some (.nx (put ρ i (.sh (.int (n + m)))) p.2)
        | .sub, .int m => some (.nx (put ρ i (.sh (.int (n - m)))) p.2)
        | _, _ => none
      | _ => none
  | .dnew i n, ρ, τ => if i < ρ.length then some (.nx (put ρ i (.od n [])) τ) else none
  | .ddis i ks es, ρ, τ => (evs g es ρ τ).bind fun p => if i < ρ.length then some (.nx (put ρ i (.od 0 (disK ks p.1 []))) p.2) else none
  | .dd1 i n k e, ρ, τ => (ev g k ρ τ).bind fun p => (ev g e ρ p.2).bind fun q => (keyD n p.1).bind fun kk => if i < ρ.length then some (.nx (put ρ i (.od n (putD [] kk q.1))) q.2) else none
  | .dcmp i n tg it c k e, ρ, τ => (items g it ρ τ).bind fun p => if okLen p.1.length then
      (dcLoop n (fun d τ => (bindT tg d (wipeE ρ tg.slots)).bind fun ρ1 => (ev g c ρ1 τ).bind fun q => (truth q.1).bind fun b => if b then (ev g k ρ1 q.2).bind fun r => (ev g e ρ1 r.2).map fun t => (some (r.1, t.1), t.2) else some (none, q.2)) p.1 [] p.2).bind fun r => if i < ρ.length then some (.nx (put ρ i (.od n r.1)) r.2) else none else none
  | .dst i k e, ρ, τ => (ev g e ρ τ).bind fun p => (ev g k ρ p.2).bind fun q => (getD ρ i).bind fun r => (keyD r.1 q.1).bind fun kk =>
      if decide (r.2.length < sizeLine) then some (.nx (put ρ i (.od r.1 (putD r.2 kk p.1))) q.2) else none
  | .die, _, _ => none
  | .expr e, ρ, τ => (ev g e ρ τ).map fun p => .nx ρ p.2
  | .ret e, ρ, τ => (ev g e ρ τ).map fun p => .rt p.1 p.2
  | .retN, _, τ => some (.rt .none τ)
  | .ife t a b, ρ, τ => (evT g t ρ τ).bind fun p => if p.1 then exs a ρ p.2 else exs b ρ p.2
  | .whl t b, ρ, τ => loopW (fun ρ τ => evT g t ρ τ) (exs b) FUEL ρ τ
  | .fr tg it b, ρ, τ => (items g it ρ τ).bind fun p => loopF (bindT tg) (exs b) p.1 ρ p.2
  | .brk, ρ, τ => some (.bk ρ τ)
  | .cont, ρ, τ => some (.ct ρ τ)
  | .pass, ρ, τ => some (.nx ρ τ)
def exs : Ss → Ev → T → Option (Out T)
  | .nil, ρ, τ => some (.nx ρ τ)
  | .cons s r, ρ, τ => (ex s ρ τ).bind fun
    | .nx ρ1 τ1 => exs r ρ1 τ1
    | o => some o
  | .frz i r, ρ, τ => match getO ρ i with | some xs => exs r (put ρ i (.sh (.list xs))) τ | none => match getD ρ i with | some p => exs r (put ρ i (.sh (dictD p.1 (mPD p.1 p.2)))) τ | none => exs r ρ τ
end

/-- a def: slots, parameters, body; or a def by its promise -/
inductive Df (T : Type)
  | code (n ar : Nat) (body : Ss)
  | prim (p : List PD → T → Option (PD × T))
end
def runBody {T : Type} (g : Glob T) (n : Nat) (body : Ss) (args : List PD) (τ : T) : Option (PD × T) :=
  (exs g body (args.map (fun d => some (Sl.sh d)) ++ List.replicate (n - args.length) none) τ).bind fun
    | .rt d τ1 => some (d, τ1)
    | .nx _ τ1 => some (.none, τ1)
    | _ => none
/-- a program: its defs, its constants -/
structure Pg (T : Type) where
  defs : List (Df T)
  cons : List PD
  dcts : List (List (Str × PD)) := []
/-- its dicts of the top -/
def Pg.dct {T : Type} (p : Pg T) (c : Nat) (z : Str) : Option PD := (p.dcts[c]?).bind fun l => l.lookup z
def run {T : Type} (p : Pg T) : Nat → Nat → List PD → T → Option (PD × T)
  | 0, _, _, _ => none
  | k + 1, f, args, τ => match p.defs[f]? with
    | some (.code n ar body) => if args.length = ar then runBody ⟨run p k, fun c => p.cons[c]?, p.dct⟩ n body args τ else none
    | some (.prim q) => q args τ
    | none => none
end Fh
namespace Fh
open PySem L2

/-! ### what stands in the heap -/
/-- the state's value, and the number of entries that a tuple which is a key has -/
structure TV where
  v : V
  kl : Nat
structure Tk (T : Type) where
  Z : Addr → Prop
  ok : T → Hp → Prop
  tv : TV
  stay : ∀ τ H H', ok τ H → (∀ a, Z a → H' a = H a) → ok τ H'
  there : ∀ τ H a, ok τ H → Z a → (∃ xs, H a = some (.lst xs)) ∨ ∃ vs, H a = some (.tbl vs)
  tab : Addr → Prop
  tabZ : ∀ a, tab a → Z a
  tabOk : ∀ τ H a, ok τ H → tab a → GxR.TabG H a
  tabSt : ∀ τ H H' a, ok τ H → tab a → GxR.Tabbed a H H' → ok τ H'

abbrev Fz := Addr → Prop
/-- a list that no one writes: frozen, locked, or of the written part -/
def Lk (K : PySem.W.Frag) (F : Fz) (H : Hp) (a : Addr) (xs : List V) : Prop :=
  (F a ∧ H a = some (.lst xs)) ∨ (∃ o, H a = some (.frz o (.lst xs))) ∨ SqL K (fun _ => none) a xs
theorem Lk.sq {K : PySem.W.Frag} {F : Fz} {H : Hp} {a : Addr} {xs : List V} (h : Lk K F H a xs) : SqL K H a xs := by
  rcases h with ⟨_, h⟩ | h | (h | ⟨o, h⟩) | h
  · exact .inl (.inl h)
  · exact .inl (.inr h)
  · cases h
  · cases h
  · exact .inr h
/-- n entries: those of keys; kl = 1000 a + b stands for a and b -/
def KB (kl n : Nat) : Prop := n = kl ∨ (1000 ≤ kl ∧ kl < 100000 ∧ (n = kl / 1000 ∨ n = kl % 1000))
instance (kl n : Nat) : Decidable (KB kl n) := by unfold KB; infer_instance
/-- a tuple; one of n entries is tracked -/
structure Tq (K : PySem.W.Frag) (n : Nat) (H : Hp) (a : Addr) (xs : List V) : Prop where
  sq : SqT K H a xs
  key : KB n xs.length → H a = some (.tup xs)
theorem Tq.mk0 {K : PySem.W.Frag} {n : Nat} {H : Hp} {a : Addr} {xs : List V} (h : H a = some (.tup xs)) : Tq K n H a xs := ⟨.of h, fun _ => h⟩
/-- a dict's object, its pairs with keys as lists -/
def DcO (kl n : Nat) (o : HO) (r : List (List L2.Key × V)) : Prop :=
  (n = 0 ∧ ∃ r' : List (L2.Key × V), o = .dK r' ∧ r = r'.map fun p => ([p.1], p.2)) ∨ (n ≠ 0 ∧ KB kl n ∧ o = .dT r ∧ ∀ p ∈ r, p.1.length = n)
mutual
/-- v is the datum d, all lists of which are frozen -/
inductive Rp (K : PySem.W.Frag) (tv : TV) (F : Fz) (H : Hp) : V → PD → Prop
  | non : Rp K tv F H .non .none
  | bl (b : Bool) : Rp K tv F H (.bl b) (.bool b)
  | int (i : Int) : Rp K tv F H (.int i) (.int i)
  | str (x : Str) : Rp K tv F H (.str x) (.str x)
  | lst {a : Addr} {xs : List V} {ds : List PD} : Lk K F H a xs → RpA K tv F H xs ds → Rp K tv F H (.ref a) (.list ds)
  | tup {a : Addr} {xs : List V} {ds : List PD} : Tq K tv.kl H a xs → RpA K tv F H xs ds → Rp K tv F H (.ref a) (.tuple ds)
  | ctp {a : Addr} {xs : List V} {ds : List PD} : SqT K H a xs → RpA K tv F H xs ds → Rp K tv F H (.ref a) (.dict ((.none, .bool true) :: ds.map fun d => (.none, d)))
  | tok : Rp K tv F H tv.v tokD
  | dct {a : Addr} {n : Nat} {o : HO} {r : List (List L2.Key × V)} {m : List (PD × PD)} : F a → H a = some o → DcO tv.kl n o r → RpM K tv F H n r m → Rp K tv F H (.ref a) (.dict ((.none, .int (n : Int)) :: m))
inductive RpA (K : PySem.W.Frag) (tv : TV) (F : Fz) (H : Hp) : List V → List PD → Prop
  | nil : RpA K tv F H [] []
  | cons {v : V} {vs : List V} {d : PD} {ds : List PD} : Rp K tv F H v d → RpA K tv F H vs ds → RpA K tv F H (v :: vs) (d :: ds)
/-- the pairs of a dict -/
inductive RpM (K : PySem.W.Frag) (tv : TV) (F : Fz) (H : Hp) : Nat → List (List L2.Key × V) → List (PD × PD) → Prop
  | nil {n : Nat} : RpM K tv F H n [] []
  | cons {n : Nat} {k : List L2.Key} {v : V} {r : List (List L2.Key × V)} {d : PD} {m : List (PD × PD)} : Rp K tv F H v d → RpM K tv F H n r m → RpM K tv F H n ((k, v) :: r) ((keyOut n k, d) :: m)
end

def imm : HO → Prop
  | .tup _ => True
  | .frz _ _ => True
  | _ => False
/-- frozen things stand as they stood -/
structure Lw (F : Fz) (H : Hp) (F' : Fz) (H' : Hp) : Prop where
  sub : ∀ a, F a → F' a
  keep : ∀ a o, H a = some o → F a ∨ imm o → H' a = some o
theorem Lw.refl (F : Fz) (H : Hp) : Lw F H F H := ⟨fun _ h => h, fun _ _ h _ => h⟩
theorem Lw.trans {F H F1 H1 F2 H2} (a : Lw F H F1 H1) (b : Lw F1 H1 F2 H2) : Lw F H F2 H2 :=
  ⟨fun x h => b.sub x (a.sub x h), fun x o h c => b.keep x o (a.keep x o h c) (c.elim (fun z => .inl (a.sub x z)) .inr)⟩

/-- all things but the state's own stand as they stood -/
structure Le (Z : Fz) (F : Fz) (H : Hp) (F' : Fz) (H' : Hp) : Prop where
  sub : ∀ a, F a → F' a
  keep : ∀ a o, H a = some o → ¬ Z a → H' a = some o
  new : ∀ a, F' a → F a ∨ H a = none
  there : ∀ a, H a ≠ none → H' a ≠ none
theorem Le.refl (Z F : Fz) (H : Hp) : Le Z F H F H := ⟨fun _ h => h, fun _ _ h _ => h, fun _ h => .inl h, fun _ h => h⟩
theorem Le.trans {Z F H F1 H1 F2 H2} (a : Le Z F H F1 H1) (b : Le Z F1 H1 F2 H2) : Le Z F H F2 H2 := by
  refine ⟨fun x h => b.sub x (a.sub x h), fun x o h z => b.keep x o (a.keep x o h z) z, fun x h => ?_, fun x h => b.there x (a.there x h)⟩
  rcases b.new x h with h | h
  · exact a.new x h
  · refine .inr ?_
    cases e : H x with
    | none => rfl
    | some o => exact absurd h (a.there x (by rw [e]; intro z; cases z))

section
variable {T : Type} (k : Tk T) (K : PySem.W.Frag)
/-- the state stands, what is frozen is tracked and none of the state's -/
structure Gd (τ : T) (F : Fz) (H : Hp) : Prop where
  ok : k.ok τ H
  fz : ∀ a, F a → ¬ k.Z a ∧ H a ≠ none
variable {k K}
variable {τ τ' : T} {F F' : Fz} {H H' : Hp}
theorem Gd.immZ (g : Gd k τ F H) {a : Addr} {o : HO} (h : H a = some o) (i : F a ∨ imm o) : ¬ k.Z a := by
  rcases i with i | i
  · exact (g.fz a i).1
  · intro z
    rcases k.there τ H a g.ok z with ⟨xs, e⟩ | ⟨vs, e⟩
    · rw [h] at e; cases e
      exact i
    · rw [h] at e; cases e
      exact i
theorem Gd.newZ (g : Gd k τ F H) {a : Addr} (h : H a = none) : ¬ k.Z a := by
  intro z
  rcases k.there τ H a g.ok z with ⟨xs, e⟩ | ⟨vs, e⟩
  · rw [h] at e; cases e
  · rw [h] at e; cases e
theorem Le.lw (g : Gd k τ F H) (l : Le k.Z F H F' H') : Lw F H F' H' :=
  ⟨l.sub, fun a o h c => l.keep a o h (g.immZ h c)⟩
/-- the state's own objects were not touched -/
theorem Gd.le (g : Gd k τ F H) (l : Le k.Z F H F' H') (hz : ∀ a, k.Z a → H' a = H a) (hf : ∀ a, F' a → H' a ≠ none) : Gd k τ F' H' := by
  refine ⟨k.stay τ H H' g.ok hz, fun a h => ⟨?_, hf a h⟩⟩
  rcases l.new a h with h | h
  · exact (g.fz a h).1
  · exact g.newZ h
end

section
variable {K : PySem.W.Frag} {tv : TV} {F F' : Fz} {H H' : Hp}
theorem Lk.lw (l : Lw F H F' H') {a : Addr} {xs : List V} (h : Lk K F H a xs) : Lk K F' H' a xs := by
  rcases h with ⟨hf, h⟩ | ⟨o, h⟩ | h
  · exact .inl ⟨l.sub _ hf, l.keep a _ h (.inl hf)⟩
  · exact .inr (.inl ⟨o, l.keep a _ h (.inr trivial)⟩)
  · exact .inr (.inr h)
theorem SqT.lw (l : Lw F H F' H') {a : Addr} {xs : List V} (h : SqT K H a xs) : SqT K H' a xs := by
  rcases h with (h | ⟨o, h⟩) | h
  · exact .inl (.inl (l.keep a _ h (.inr trivial)))
  · exact .inl (.inr ⟨o, l.keep a _ h (.inr trivial)⟩)
  · exact .inr h
theorem Tq.lw (l : Lw F H F' H') {n : Nat} {a : Addr} {xs : List V} (h : Tq K n H a xs) : Tq K n H' a xs := ⟨SqT.lw l h.sq, fun e => l.keep a _ (h.key e) (.inr trivial)⟩
mutual
theorem Rp.lw (l : Lw F H F' H') : ∀ {d : PD} {v : V}, Rp K tv F H v d → Rp K tv F' H' v d
  | _, _, .non => .non
  | _, _, .bl b => .bl b
  | _, _, .int i => .int i
  | _, _, .str x => .str x
  | _, _, .lst h ha => .lst (h.lw l) (RpA.lw l ha)
  | _, _, .tup h ha => .tup (Tq.lw l h) (RpA.lw l ha)
  | _, _, .ctp h ha => .ctp (SqT.lw l h) (RpA.lw l ha)
  | _, _, .tok => .tok
  | _, _, .dct f h o m => .dct (l.sub _ f) (l.keep _ _ h (.inl f)) o (RpM.lw l m)
theorem RpA.lw (l : Lw F H F' H') : ∀ {ds : List PD} {vs : List V}, RpA K tv F H vs ds → RpA K tv F' H' vs ds
  | _, _, .nil => .nil
  | _, _, .cons h t => .cons (Rp.lw l h) (RpA.lw l t)
theorem RpM.lw (l : Lw F H F' H') : ∀ {n : Nat} {r : List (List L2.Key × V)} {m : List (PD × PD)}, RpM K tv F H n r m → RpM K tv F' H' n r m
  | _, _, _, .nil => .nil
  | _, _, _, .cons h t => .cons (Rp.lw l h) (RpM.lw l t)
end
theorem RpA.length : ∀ {ds : List PD} {vs : List V}, RpA K tv F H vs ds → vs.length = ds.length
  | _, _, .nil => rfl
  | _, _, .cons _ t => by rw [List.length_cons, List.length_cons, RpA.length t]
theorem RpA.append : ∀ {ds es : List PD} {vs ws : List V}, RpA K tv F H vs ds → RpA K tv F H ws es → RpA K tv F H (vs ++ ws) (ds ++ es)
  | _, _, _, _, .nil, s => s
  | _, _, _, _, .cons h t, s => .cons h (RpA.append t s)
theorem RpA.get : ∀ {ds : List PD} {vs : List V} {i : Nat} {d : PD}, RpA K tv F H vs ds → ds[i]? = some d → ∃ v, vs[i]? = some v ∧ Rp K tv F H v d
  | _, _, _, _, .nil, e => by simp at e
  | _, _, 0, _, .cons h t, e => by simp at e; subst e; exact ⟨_, rfl, h⟩
  | _, _, i + 1, d, .cons _ t, e => by
    obtain ⟨v, h1, h2⟩ := RpA.get (i := i) (d := d) t (by simpa using e)
    exact ⟨v, by simpa using h1, h2⟩
theorem RpA.set {x : V} {d : PD} (h : Rp K tv F H x d) : ∀ {ds : List PD} {vs : List V} (i : Nat), RpA K tv F H vs ds → RpA K tv F H (vs.set i x) (ds.set i d)
  | _, _, _, .nil => .nil
  | _, _, 0, .cons _ t => .cons h t
  | _, _, i + 1, .cons q t => .cons q (RpA.set h i t)
theorem RpA.take : ∀ {ds : List PD} {vs : List V} (n : Nat), RpA K tv F H vs ds → RpA K tv F H (vs.take n) (ds.take n)
  | _, _, 0, _ => by simp only [List.take_zero]; exact .nil
  | _, _, _ + 1, .nil => .nil
  | _, _, n + 1, .cons h t => .cons h (RpA.take n t)
theorem RpA.drop : ∀ {ds : List PD} {vs : List V} (n : Nat), RpA K tv F H vs ds → RpA K tv F H (vs.drop n) (ds.drop n)
  | _, _, 0, h => h
  | _, _, _ + 1, .nil => .nil
  | _, _, n + 1, .cons _ t => RpA.drop n t
theorem RpA.dropLast {ds : List PD} {vs : List V} (h : RpA K tv F H vs ds) : RpA K tv F H vs.dropLast ds.dropLast := by
  rw [List.dropLast_eq_take, List.dropLast_eq_take, h.length]
  exact h.take _
theorem RpA.reverse : ∀ {ds : List PD} {vs : List V}, RpA K tv F H vs ds → RpA K tv F H vs.reverse ds.reverse
  | _, _, .nil => .nil
  | _, _, .cons h t => by
    rw [List.reverse_cons, List.reverse_cons]
    exact (RpA.reverse t).append (.cons h .nil)
theorem RpA.rep {ds : List PD} {vs : List V} (h : RpA K tv F H vs ds) : ∀ n : Nat, RpA K tv F H (List.replicate n vs).flatten (List.replicate n ds).flatten
  | 0 => .nil
  | n + 1 => by
    rw [List.replicate_succ, List.replicate_succ, List.flatten_cons, List.flatten_cons]
    exact h.append (RpA.rep h n)
/-! for the library's rules on data -/
mutual
theorem Rp.dp : ∀ {d : PD} {v : V}, Rp K tv F H v d → d.canLay0 = true → Dp K H v d
  | _, _, .non, _ => .non
  | _, _, .bl b, _ => .bl b
  | _, _, .int i, _ => .int i
  | _, _, .str x, _ => .str x
  | _, _, .lst h ha, c => .lst h.sq (RpA.dp ha (by simpa [PyData.canLay0] using c))
  | _, _, .tup h ha, c => .tup h.sq (RpA.dp ha (by simpa [PyData.canLay0] using c))
  | _, _, .tok, c => by simp [tokD, PyData.canLay0] at c
  | _, _, .ctp _ _, c => by simp [PyData.canLay0] at c
  | _, _, .dct _ _ _ _, c => by simp [PyData.canLay0] at c
theorem RpA.dp : ∀ {ds : List PD} {vs : List V}, RpA K tv F H vs ds → PyData.canLayAll0 ds = true → DpAll K H vs ds
  | _, _, .nil, _ => .nil
  | _, _, .cons h t, c => by
    rw [PyData.canLayAll0, Bool.and_eq_true] at c
    exact .cons (Rp.dp h c.1) (RpA.dp t c.2)
end
/-- .. or a list that is not frozen (yet) -/
def Rb (K : PySem.W.Frag) (Z : Fz) (tv : TV) (F : Fz) (H : Hp) (v : V) (d : PD) : Prop :=
  Rp K tv F H v d ∨ ∃ a xs ds, v = .ref a ∧ d = .list ds ∧ ¬ Z a ∧ H a = some (.lst xs) ∧ RpA K tv F H xs ds
theorem Rb.of {Z : Fz} {v : V} {d : PD} (h : Rp K tv F H v d) : Rb K Z tv F H v d := .inl h
theorem Rb.dp {Z : Fz} {v : V} {d : PD} (h : Rb K Z tv F H v d) (c : d.canLay0 = true) : Dp K H v d := by
  rcases h with h | ⟨a, xs, ds, rfl, rfl, _, hH, ha⟩
  · exact h.dp c
  · exact .lst (SqL.of hH) (ha.dp (by simpa [PyData.canLay0] using c))
theorem Rb.le {T : Type} {k : Tk T} {τ : T} (g : Gd k τ F H) (l : Le k.Z F H F' H') {v : V} {d : PD} (h : Rb K k.Z tv F H v d) : Rb K k.Z tv F' H' v d := by
  rcases h with h | ⟨a, xs, ds, rfl, rfl, hz, hH, ha⟩
  · exact .inl (h.lw (l.lw g))
  · exact .inr ⟨a, xs, ds, rfl, rfl, hz, l.keep _ _ hH hz, ha.lw (l.lw g)⟩
/-- a list datum's list -/
theorem Rb.list {Z : Fz} {v : V} {ds : List PD} (h : Rb K Z tv F H v (.list ds)) : ∃ a xs, v = .ref a ∧ SqL K H a xs ∧ RpA K tv F H xs ds := by
  rcases h with h | ⟨a, xs, ds', rfl, e, hz, hH, ha⟩
  · cases h with
    | lst h ha => exact ⟨_, _, rfl, h.sq, ha⟩
  · cases e
    exact ⟨a, xs, rfl, SqL.of hH, ha⟩
theorem Rb.tuple {Z : Fz} {v : V} {ds : List PD} (h : Rb K Z tv F H v (.tuple ds)) : ∃ a xs, v = .ref a ∧ SqT K H a xs ∧ RpA K tv F H xs ds := by
  rcases h with h | ⟨a, xs, ds', rfl, e, hz, hH, ha⟩
  · cases h with
    | tup h ha => exact ⟨_, _, rfl, h.sq, ha⟩
  · cases e
theorem Rb.rpT {Z : Fz} {v : V} {ds : List PD} (h : Rb K Z tv F H v (.tuple ds)) : Rp K tv F H v (.tuple ds) := by
  rcases h with h | ⟨a, xs, ds', rfl, e, hz, hH, ha⟩
  · exact h
  · cases e
theorem Rb.int {Z : Fz} {v : V} {i : Int} (h : Rb K Z tv F H v (.int i)) : v = .int i := by
  rcases h with h | ⟨a, xs, ds', rfl, e, hz, hH, ha⟩
  · cases h; rfl
  · cases e
theorem Rb.bool {Z : Fz} {v : V} {b : Bool} (h : Rb K Z tv F H v (.bool b)) : v = .bl b := by
  rcases h with h | ⟨a, xs, ds', rfl, e, hz, hH, ha⟩
  · cases h; rfl
  · cases e
theorem Rb.str {Z : Fz} {v : V} {s : Str} (h : Rb K Z tv F H v (.str s)) : v = .str s := by
  rcases h with h | ⟨a, xs, ds', rfl, e, hz, hH, ha⟩
  · cases h; rfl
  · cases e
theorem Rb.none {Z : Fz} {v : V} (h : Rb K Z tv F H v .none) : v = .non := by
  rcases h with h | ⟨a, xs, ds', rfl, e, hz, hH, ha⟩
  · cases h; rfl
  · cases e
end

/-! ### the names -/
section
variable {T : Type} (k : Tk T) (K : PySem.W.Frag)
/-- a dict's pairs -/
def Kv {κ : Type} (f : κ → List L2.Key) (G : List L2.Key → Prop) (R : V → PD → Prop) : List (κ × V) → List (List L2.Key × PD) → Prop := Paired fun p q => f p.1 = q.1 ∧ G q.1 ∧ R p.2 q.2
/-- a dict's table -/
def Dd (K : PySem.W.Frag) (tv : TV) (F : Fz) (H : Hp) (n : Nat) (a : Addr) (kvs : List (List L2.Key × PD)) : Prop :=
  (n = 0 ∧ ∃ r : List (L2.Key × V), H a = some (.dK r) ∧ Kv (fun x => [x]) (fun _ => True) (Rp K tv F H) r kvs) ∨
  (n ≠ 0 ∧ KB tv.kl n ∧ ∃ r : List (List L2.Key × V), H a = some (.dT r) ∧ Kv (fun x => x) (fun y => y.length = n) (Rp K tv F H) r kvs)
theorem Dd.lw {K : PySem.W.Frag} {tv : TV} {F F' : Fz} {H H' : Hp} {n : Nat} {a : Addr} {kvs : List (List L2.Key × PD)} (l : Lw F H F' H') (e : ∀ o, H a = some o → H' a = some o) (h : Dd K tv F H n a kvs) : Dd K tv F' H' n a kvs := by
  rcases h with ⟨h0, r, h1, h2⟩ | ⟨h0, h3, r, h1, h2⟩
  · exact .inl ⟨h0, r, e _ h1, Paired.mapP h2 fun _ _ z => ⟨z.1, z.2.1, z.2.2.lw l⟩⟩
  · exact .inr ⟨h0, h3, r, e _ h1, Paired.mapP h2 fun _ _ z => ⟨z.1, z.2.1, z.2.2.lw l⟩⟩
theorem Dd.rp {K : PySem.W.Frag} {tv : TV} {F : Fz} {H : Hp} {n : Nat} {a : Addr} {kvs : List (List L2.Key × PD)} (f : F a) (h : Dd K tv F H n a kvs) : Rp K tv F H (.ref a) (dictD n (mPD n kvs)) := by
  rcases h with ⟨h0, r, h1, h2⟩ | ⟨h0, h3, r, h1, h2⟩
  · refine .dct f h1 (.inl ⟨h0, r, rfl, rfl⟩) ?_
    clear h1
    unfold Kv at h2
    induction h2 with
    | nil => exact .nil
    | @cons p q ps qs hp t ih =>
      obtain ⟨x, v⟩ := p
      obtain ⟨y, d⟩ := q
      obtain ⟨rfl, _, e2⟩ := hp
      exact .cons e2 ih
  · refine .dct f h1 (.inr ⟨h0, h3, rfl, ?_⟩) ?_
    · clear h1
      unfold Kv at h2
      induction h2 with
      | nil => exact fun _ h => nomatch h
      | @cons p q ps qs hp t ih =>
        intro z hz
        rcases List.mem_cons.mp hz with rfl | hz
        · exact (congrArg List.length hp.1).trans hp.2.1
        · exact ih z hz
    · clear h1
      unfold Kv at h2
      induction h2 with
      | nil => exact .nil
      | @cons p q ps qs hp t ih =>
        obtain ⟨x, v⟩ := p
        obtain ⟨y, d⟩ := q
        obtain ⟨rfl, _, e2⟩ := hp
        exact .cons e2 ih
def SlOk (F : Fz) (H : Hp) (v : V) : Sl → Prop
  | .sh d => Rp K k.tv F H v d
  | .ow ds => ∃ a xs, v = .ref a ∧ H a = some (.lst xs) ∧ RpA K k.tv F H xs ds
  | .od n kvs => ∃ a, v = .ref a ∧ Dd K k.tv F H n a kvs
structure Okk (H0 : Hp) (ρ : Ev) (σ : L2.St) (F : Fz) (H : Hp) : Prop where
  len : ρ.length = σ.length
  sl : ∀ (i : Nat) (s : Sl), ρ[i]? = some (some s) → ∃ v, σ[i]? = some (some v) ∧ SlOk k K F H v s
  own : ∀ (i : Nat) (s : Sl) (v : V), ρ[i]? = some (some s) → s.own = true → σ[i]? = some (some v) → ∃ a, v = .ref a ∧ ¬ F a ∧ ¬ k.Z a ∧ H0 a = none
  sep : ∀ (i j : Nat) (s t : Sl) (v : V), ρ[i]? = some (some s) → ρ[j]? = some (some t) → s.own = true → t.own = true → σ[i]? = some (some v) → σ[j]? = some (some v) → i = j
variable {k K}
variable {τ τ' : T} {F F' : Fz} {H H' H0 : Hp} {ρ : Ev} {σ : L2.St}
theorem SlOk.at_ {v : V} {a : Addr} : ∀ {s : Sl}, SlOk k K F H v s → s.own = true → v = .ref a → ∃ o, H a = some o
  | .sh d, _, h, _ => nomatch h
  | .ow ds, ⟨b, xs, e, hH, _⟩, _, h => by rw [e] at h; cases h; exact ⟨_, hH⟩
  | .od n kvs, ⟨b, e, hd⟩, _, h => by
    rw [e] at h; cases h
    rcases hd with ⟨_, r, h1, _⟩ | ⟨_, _, r, h1, _⟩
    · exact ⟨_, h1⟩
    · exact ⟨_, h1⟩
theorem SlOk.le (g : Gd k τ F H) (l : Le k.Z F H F' H') {v : V} : ∀ {s : Sl}, SlOk k K F H v s → (∀ a, s.own = true → v = .ref a → ¬ k.Z a) → SlOk k K F' H' v s
  | .sh d, h, _ => Rp.lw (l.lw g) h
  | .ow ds, ⟨a, xs, e, hH, ha⟩, hz => ⟨a, xs, e, l.keep _ _ hH (hz a rfl e), ha.lw (l.lw g)⟩
  | .od n kvs, ⟨a, e, h⟩, hz => ⟨a, e, h.lw (l.lw g) fun o h => l.keep _ _ h (hz a rfl e)⟩
theorem Okk.le (o : Okk k K H0 ρ σ F H) (g : Gd k τ F H) (l : Le k.Z F H F' H') : Okk k K H0 ρ σ F' H' := by
  refine ⟨o.len, fun i s e => ?_, fun i s v e1 es e2 => ?_, o.sep⟩
  · obtain ⟨v, e2, h⟩ := o.sl i s e
    refine ⟨v, e2, h.le g l fun a es ev => ?_⟩
    obtain ⟨b, eb, _, hz, _⟩ := o.own i s v e es e2
    rw [ev] at eb; cases eb
    exact hz
  · obtain ⟨a, ea, hf, hz, h0⟩ := o.own i s v e1 es e2
    refine ⟨a, ea, fun q => ?_, hz, h0⟩
    rcases l.new a q with q | q
    · exact hf q
    · obtain ⟨v', e2', hs⟩ := o.sl i _ e1
      rw [e2] at e2'; cases e2'
      obtain ⟨o', ho⟩ := hs.at_ es ea
      rw [q] at ho; cases ho
end
end Fh
namespace Fh
open PySem L2 PyProof.Rows
abbrev Sg := L2.St

/-! ### judgements of expressions -/
/-- a list that was made meanwhile, or another datum -/
def FrV (K : PySem.W.Frag) (tv : TV) (H : Hp) (F' : Fz) (H' : Hp) (v : V) : PD → Prop
  | .list ds => ∃ a xs, v = .ref a ∧ H a = none ∧ ¬ F' a ∧ H' a = some (.lst xs) ∧ RpA K tv F' H' xs ds
  | d => Rp K tv F' H' v d
section
variable {T : Type} (k : Tk T) (g : Glob T) (X : Cx)
def RX (t : TE) (m : E) : Prop := ∀ (H0 : Hp) (ρ : Ev) (τ : T) (σ : Sg) (F : Fz) (H : Hp) (d : PD) (τ' : T) (Q : VK), Okk k X.K H0 ρ σ F H → Gd k τ F H → ev g m ρ τ = some (d, τ') →
  (∀ v F' H', Le k.Z F H F' H' → Gd k τ' F' H' → Rp X.K k.tv F' H' v d → Q v H') → t σ H Q
def RB (t : TE) (m : E) : Prop := ∀ (H0 : Hp) (ρ : Ev) (τ : T) (σ : Sg) (F : Fz) (H : Hp) (d : PD) (τ' : T) (Q : VK), Okk k X.K H0 ρ σ F H → Gd k τ F H → ev g m ρ τ = some (d, τ') →
  (∀ v F' H', Le k.Z F H F' H' → Gd k τ' F' H' → Rb X.K k.Z k.tv F' H' v d → Q v H') → t σ H Q
def RF (t : TE) (m : E) : Prop := ∀ (H0 : Hp) (ρ : Ev) (τ : T) (σ : Sg) (F : Fz) (H : Hp) (d : PD) (τ' : T) (Q : VK), Okk k X.K H0 ρ σ F H → Gd k τ F H → ev g m ρ τ = some (d, τ') →
  (∀ v F' H', Le k.Z F H F' H' → Gd k τ' F' H' → FrV X.K k.tv H F' H' v d → Q v H') → t σ H Q
def RT (t : TT) (m : E) : Prop := ∀ (H0 : Hp) (ρ : Ev) (τ : T) (σ : Sg) (F : Fz) (H : Hp) (b : Bool) (τ' : T) (Q : Bool → Hp → Prop), Okk k X.K H0 ρ σ F H → Gd k τ F H → evT g m ρ τ = some (b, τ') →
  (∀ F' H', Le k.Z F H F' H' → Gd k τ' F' H' → Q b H') → t σ H Q
/-- arguments: borrowed, or escaping -/
def RAb (t : TA) (ms : Es) : Prop := ∀ (H0 : Hp) (ρ : Ev) (τ : T) (σ : Sg) (F : Fz) (H : Hp) (ds : List PD) (τ' : T) (Q : List V → Hp → Prop), Okk k X.K H0 ρ σ F H → Gd k τ F H → evs g ms ρ τ = some (ds, τ') →
  (∀ vs F' H', Le k.Z F H F' H' → Gd k τ' F' H' → Paired (Rb X.K k.Z k.tv F' H') vs ds → Q vs H') → t σ H Q
def RAx (t : TA) (ms : Es) : Prop := ∀ (H0 : Hp) (ρ : Ev) (τ : T) (σ : Sg) (F : Fz) (H : Hp) (ds : List PD) (τ' : T) (Q : List V → Hp → Prop), Okk k X.K H0 ρ σ F H → Gd k τ F H → evs g ms ρ τ = some (ds, τ') →
  (∀ vs F' H', Le k.Z F H F' H' → Gd k τ' F' H' → RpA X.K k.tv F' H' vs ds → Q vs H') → t σ H Q
end

def E.isPk : E → Bool
  | .pk _ => true
  | _ => false
def Ir.pkS : Ir → Bool
  | .seq a => a.isPk
  | _ => false
def E.isFr : E → Bool
  | .lst _ => true
  | .lc _ _ _ _ => true
  | .bin .add _ _ => true
  | .bin .rep _ _ => true
  | .bi .list _ => true
  | .bi .sorted _ => true
  | .ss _ => true
  | .dks _ => true
  | .sl _ _ _ => true
  | .rv _ => true
  | .lr false _ => true
  | _ => false
def Es.noPk : Es → Bool
  | .nil => true
  | .cons e es => !e.isPk && es.noPk

section
variable {T : Type} {k : Tk T} {g : Glob T} {X : Cx}
theorem Gd.fresh {τ : T} {F F' : Fz} {H H' : Hp} (g0 : Gd k τ F H) (gd : Gd k τ F' H') {a : Addr} {o : HO} (hn : H a = none) (hH : H' a = some o) : Gd k τ (fun b => F' b ∨ b = a) H' :=
  ⟨gd.ok, fun b hb => hb.elim (fun z => gd.fz b z) fun z => by subst z; exact ⟨g0.newZ hn, by rw [hH]; intro z; cases z⟩⟩
theorem Le.fresh {Z F F' : Fz} {H H' : Hp} (l : Le Z F H F' H') {a : Addr} (hn : H a = none) : Le Z F H (fun b => F' b ∨ b = a) H' :=
  ⟨fun b h => .inl (l.sub b h), l.keep, fun b h => h.elim (fun z => l.new b z) (fun z => by subst z; exact .inr hn), l.there⟩
theorem Lw.more {F : Fz} {H : Hp} {a : Addr} : Lw F H (fun b => F b ∨ b = a) H := ⟨fun _ h => .inl h, fun _ _ h _ => h⟩
/-- what is fresh may be frozen -/
theorem FrV.rp {τ τ' : T} {F F' : Fz} {H H' : Hp} {v : V} {d : PD} (g0 : Gd k τ F H) (l : Le k.Z F H F' H') (gd : Gd k τ' F' H') (h : FrV X.K k.tv H F' H' v d) :
    ∃ F'', Le k.Z F H F'' H' ∧ Gd k τ' F'' H' ∧ Rp X.K k.tv F'' H' v d := by
  cases d with
  | list ds =>
    obtain ⟨a, xs, rfl, hn, hf, hH, ha⟩ := h
    refine ⟨fun b => F' b ∨ b = a, l.fresh hn, ⟨gd.ok, fun b hb => hb.elim (fun z => gd.fz b z) fun z => by subst z; exact ⟨g0.newZ hn, by rw [hH]; intro z; cases z⟩⟩, .lst (.inl ⟨.inr rfl, hH⟩) (ha.lw .more)⟩
  | _ => exact ⟨F', l, gd, h⟩
theorem FrV.rb {τ : T} {F F' : Fz} {H H' : Hp} {v : V} {d : PD} (g0 : Gd k τ F H) (h : FrV X.K k.tv H F' H' v d) : Rb X.K k.Z k.tv F' H' v d := by
  cases d with
  | list ds =>
    obtain ⟨a, xs, rfl, hn, hf, hH, ha⟩ := h
    exact .inr ⟨a, xs, ds, rfl, rfl, g0.newZ hn, hH, ha⟩
  | _ => exact .inl h
theorem RF.x {t : TE} {m : E} (h : RF k g X t m) : RX k g X t m := fun H0 ρ τ σ F H d τ' Q o gd e q =>
  h H0 ρ τ σ F H d τ' Q o gd e fun v F' H' l g' f => by
    obtain ⟨F'', l2, g2, r⟩ := f.rp gd l g'
    exact q v F'' H' l2 g2 r
theorem RF.b {t : TE} {m : E} (h : RF k g X t m) : RB k g X t m := fun H0 ρ τ σ F H d τ' Q o gd e q =>
  h H0 ρ τ σ F H d τ' Q o gd e fun v F' H' l g' f => q v F' H' l g' (f.rb gd)
theorem RX.b {t : TE} {m : E} (h : RX k g X t m) : RB k g X t m := fun H0 ρ τ σ F H d τ' Q o gd e q =>
  h H0 ρ τ σ F H d τ' Q o gd e fun v F' H' l g' f => q v F' H' l g' (.of f)

variable (k g X)
/-- THE SOUNDNESS of an expression's tree -/
structure SE (e : Expr) (m : E) : Prop where
  ex : ∃ t, PE X e t ∧ (m.isPk = false → RX k g X t m) ∧ RB k g X t m ∧ (m.isFr = true → RF k g X t m)
structure ST (e : Expr) (m : E) : Prop where
  ex : ∃ t, PT X e t ∧ RT k g X t m
structure SA (es : List Expr) (ms : Es) : Prop where
  ex : ∃ t, PA X es t ∧ RAb k g X t ms ∧ (ms.noPk = true → RAx k g X t ms)
variable {k g X}
theorem SE.ofX {e : Expr} {m : E} {t : TE} (h : PE X e t) (r : RX k g X t m) (f : m.isFr = false) : SE k g X e m := ⟨t, h, fun _ => r, r.b, fun z => by rw [f] at z; cases z⟩
theorem SE.ofF {e : Expr} {m : E} {t : TE} (h : PE X e t) (r : RF k g X t m) : SE k g X e m := ⟨t, h, fun _ => r.x, r.b, fun _ => r⟩

/-! ### the leaves -/
theorem se_const {e : Expr} {m : E} {v : V} {d : PD} (h : PE X e (tC v)) (he : ∀ ρ τ, ev g m ρ τ = some (d, τ)) (hr : ∀ F H, Rp X.K k.tv F H v d) (f : m.isFr = false) : SE k g X e m :=
  .ofX h (fun H0 ρ τ σ F H d' τ' Q o gd e q => by
    rw [he] at e; cases e
    exact q v F H (.refl _ _ _) gd (hr F H)) f
theorem se_int {i : Int} {j : Nat} {pos : Pos} : SE k g X (.Constant (.int i) j pos) (.int i) := se_const pe_int (fun _ _ => rfl) (fun _ _ => .int i) rfl
theorem se_str {s : Str} {j : Nat} {pos : Pos} : SE k g X (.Constant (.str s) j pos) (.str s) := se_const pe_str (fun _ _ => rfl) (fun _ _ => .str s) rfl
theorem se_bl {b : Bool} {j : Nat} {pos : Pos} : SE k g X (.Constant (.bool b) j pos) (.bl b) := se_const pe_bl (fun _ _ => rfl) (fun _ _ => .bl b) rfl
theorem se_non {j : Nat} {pos : Pos} : SE k g X (.Constant .none j pos) .non := se_const pe_non (fun _ _ => rfl) (fun _ _ => .non) rfl
theorem get_eq {ρ : Ev} {i : Nat} {d : PD} (h : get ρ i = some d) : ρ[i]? = some (some (.sh d)) := by
  unfold get at h
  split at h
  · cases h; assumption
  · cases h
theorem getO_eq {ρ : Ev} {i : Nat} {ds : List PD} (h : getO ρ i = some ds) : ρ[i]? = some (some (.ow ds)) := by
  unfold getO at h
  split at h
  · cases h; assumption
  · cases h
theorem se_v {i : Nat} {x : Str} {pos : Pos} (h : PE X (.Name x pos) (tVar i)) : SE k g X (.Name x pos) (.v i) :=
  .ofX h (fun H0 ρ τ σ F H d τ' Q o gd e q => by
    rw [ev] at e
    obtain ⟨d', e1, e2⟩ := Option.map_eq_some_iff.mp e
    cases e2
    obtain ⟨v, e3, r⟩ := o.sl i _ (get_eq e1)
    exact ⟨v, e3, q v F H (.refl _ _ _) gd r⟩) rfl
theorem se_pk {i : Nat} {x : Str} {pos : Pos} (h : PE X (.Name x pos) (tVar i)) : SE k g X (.Name x pos) (.pk i) :=
  ⟨_, h, (fun z => nomatch z), (fun H0 ρ τ σ F H d τ' Q o gd e q => by
    rw [ev] at e
    obtain ⟨d', e1, e2⟩ := Option.map_eq_some_iff.mp e
    cases e2
    unfold peek at e1
    split at e1
    · cases e1
      rename_i _ e1
      obtain ⟨v, e3, r⟩ := o.sl i _ e1
      exact ⟨v, e3, q v F H (.refl _ _ _) gd (.inl r)⟩
    · cases e1
      rename_i ds e1
      obtain ⟨v, e3, a, xs, rfl, hH, ha⟩ := o.sl i _ e1
      obtain ⟨b, eb, _, hz, _⟩ := o.own i _ _ e1 rfl e3
      cases eb
      exact ⟨_, e3, q _ F H (.refl _ _ _) gd (.inr ⟨a, xs, ds, rfl, rfl, hz, hH, ha⟩)⟩
    · cases e1), fun z => nomatch z⟩

/-! ### two operands -/
theorem two {ta tb : TE} {a b : E} (ha : RB k g X ta a) (hb : RB k g X tb b) {H0 : Hp} {ρ : Ev} {τ τ1 τ2 : T} {σ : Sg} {F : Fz} {H : Hp} {x y : PD} {R : V → V → Hp → Prop} (o : Okk k X.K H0 ρ σ F H) (gd : Gd k τ F H)
    (e1 : ev g a ρ τ = some (x, τ1)) (e2 : ev g b ρ τ1 = some (y, τ2))
    (h : ∀ v w F' H', Le k.Z F H F' H' → Gd k τ2 F' H' → Rb X.K k.Z k.tv F' H' v x → Rb X.K k.Z k.tv F' H' w y → R v w H') : ta σ H fun v H1 => tb σ H1 fun w H2 => R v w H2 := by
  refine ha H0 ρ τ σ F H x τ1 _ o gd e1 fun v F1 H1 l1 g1 r1 => ?_
  refine hb H0 ρ τ1 σ F1 H1 y τ2 _ (o.le gd l1) g1 e2 fun w F2 H2 l2 g2 r2 => ?_
  exact h v w F2 H2 (l1.trans l2) g2 (r1.le g1 l2) r2
/-- a new object -/
theorem le_new {F F1 : Fz} {H H1 : Hp} {p : Addr} {o : HO} (l : Le k.Z F H F1 H1) (hp : H1 p = none) : Le k.Z F H F1 (upd H1 p o) := by
  refine l.trans ⟨fun _ h => h, fun a o' h _ => ?_, fun _ h => .inl h, fun a h => ?_⟩
  · rw [upd_ne (ne_of_none h hp)]; exact h
  · by_cases e : a = p
    · subst e; exact absurd hp h
    · rw [upd_ne e]; exact h
theorem gd_new {τ : T} {F1 : Fz} {H1 : Hp} {p : Addr} {o : HO} (gd : Gd k τ F1 H1) (hp : H1 p = none) : Gd k τ F1 (upd H1 p o) := by
  refine gd.le (le_new (.refl _ _ _) hp) (fun a z => ?_) fun a h => ?_
  · rcases k.there τ H1 a gd.ok z with ⟨xs, e⟩ | ⟨vs, e⟩
    · exact upd_ne (ne_of_none e hp)
    · exact upd_ne (ne_of_none e hp)
  · by_cases e : a = p
    · subst e; rw [upd_same]; intro z; cases z
    · rw [upd_ne e]; exact (gd.fz a h).2
theorem none_of_le {Z F F1 : Fz} {H H1 : Hp} {p : Addr} (l : Le Z F H F1 H1) (hp : H1 p = none) : H p = none := by
  cases e : H p with
  | none => rfl
  | some o => exact absurd hp (l.there p (by rw [e]; intro z; cases z))
theorem noF {τ : T} {F1 : Fz} {H1 : Hp} {p : Addr} (gd : Gd k τ F1 H1) (hp : H1 p = none) : ¬ F1 p := fun z => (gd.fz p z).2 hp
/-- a new list is fresh -/
theorem frv_new {τ1 : T} {F F1 : Fz} {H H1 : Hp} {p : Addr} {xs : List V} {ds : List PD} (l : Le k.Z F H F1 H1) (gd : Gd k τ1 F1 H1) (hp : H1 p = none) (h : RpA X.K k.tv F1 H1 xs ds) :
    FrV X.K k.tv H F1 (upd H1 p (.lst xs)) (.ref p) (.list ds) :=
  ⟨p, xs, rfl, none_of_le l hp, noF gd hp, upd_same, h.lw ((le_new (.refl _ _ _) hp).lw gd)⟩
theorem rp_tup {τ1 : T} {F1 : Fz} {H1 : Hp} {p : Addr} {xs : List V} {ds : List PD} (gd : Gd k τ1 F1 H1) (hp : H1 p = none) (h : RpA X.K k.tv F1 H1 xs ds) :
    Rp X.K k.tv F1 (upd H1 p (.tup xs)) (.ref p) (.tuple ds) :=
  .tup (.mk0 upd_same) (h.lw ((le_new (.refl _ _ _) hp).lw gd))
end
end Fh
namespace Fh
open PySem L2 PyProof.Rows

section
variable {X : Cx}
/-! ### operators by values -/
theorem isList_of {h : Heap} {a : Addr} {its : List Value} (p : PlainL h a its.toArray) : ∃ dd n sl, h.get? a = some { cls := .type "list", dict := dd, data := .seq its.toArray n, slots := sl } := by
  obtain ⟨⟨cls, dd, data, sl⟩, n, ho, hc, hd, hs⟩ := p
  simp only at hc hs
  subst hc hs
  exact ⟨dd, n, sl, ho⟩
def rCatL (K : PySem.W.Frag) : R2 := fun x y H Q => ∃ l b xs zs, x = .ref l ∧ y = .ref b ∧ SqL K H l xs ∧ SqL K H b zs ∧ xs.length + zs.length ≤ sizeLine ∧ ∀ p, H p = none → Q (.ref p) (upd H p (.lst (xs ++ zs)))
theorem op_catL : OpR X (binaryOp .Add) (rCatL X.K) := by
  intro pins s σ H x y v u Q I rx ry h
  obtain ⟨l, b, xs, zs, rfl, rfl, hH, hB, hz, q⟩ := h
  cases rx
  cases ry
  obtain ⟨its, r, p1, _⟩ := I.list hH
  obtain ⟨its2, r2, p2, _⟩ := I.list hB
  have hl := r.length
  have hl2 := r2.length
  obtain ⟨dd, n, sl, ho⟩ := isList_of p1
  obtain ⟨dd2, n2, sl2, ho2⟩ := isList_of p2
  have ea : its.toArray ++ its2.toArray = (its ++ its2).toArray := by simp
  refine concat_meets ⟨_, ho, rfl⟩ ⟨_, ho2, rfl⟩ noFill_list_add seq_list_add PySem.F.slot_list_add PySem.F.entry_list_add (PySem.F.args_list_add_2 _ _) (PyProof.Rows.list_addW l b its.toArray its2.toArray n n2 dd dd2 sl sl2 (by rw [List.size_toArray, List.size_toArray]; omega)) ⟨ho, ho2, ?_⟩
  rw [ea]
  exact ⟨.ref _, _, I.lnew (t' := s.toks) (r.append r2) (by rw [List.length_append]; omega), rfl, q _ I.fresh⟩
theorem op_fdivX : OpR X (binaryOp .FloorDiv) (rI (fun _ j => j ≠ 0 ∧ j.natAbs.log2 < 9000) fun i j => .int (i.fdiv j)) := opI fun i j _ _ _ _ _ hc q =>
  floordiv_int hc.1 q (.inl (PyProof.noPylong_of_log2 hc.2))
/-- the operators' readings, by their names -/
def rAdd3 (K : PySem.W.Frag) : R2 := fun x y H Q => rI0 (fun i j => .int (i + j)) x y H Q ∨ (∃ i j, x = .str i ∧ y = .str j ∧ i.length + j.length ≤ sizeLine ∧ Q (.str (i ++ j)) H) ∨ rCatL K x y H Q ∨ rCatA K x y H Q
theorem op_add3 : OpR X (binaryOp .Add) (rAdd3 X.K) := op_add.or (op_add_str.or (op_catL.or op_catA))
end

section
open PySem.Spec
/-! tuple * 1: the same tuple -/
theorem tuple_mul1 (l : Addr) (items : Array Value) (n : Nat) (dd : Option Addr) (sl : Array (Option Value)) (u : Tok) (hz : items.size ≤ sizeLine) :
    Meets (Builtin.«tuple.__mul__» ⟨[.ref l, .int 1 u], []⟩) (fun _ R s => s.heap.get? l = some { cls := .type "tuple", dict := dd, data := .seq items n, slots := sl } ∧ ∀ tk, R (.ok (.ret (Value.ref l))) { s with toks := tk }) :=
  .of_wp fun prog w A R s h => by
    obtain ⟨hp, g, d, tk, os⟩ := s
    obtain ⟨hl, h⟩ := h
    have f1 := AutoSeq1.idx_int
    have c0 : (decide ((1 : Int) < -(2 ^ 63)) || decide ((1 : Int) ≥ 2 ^ 63)) = false := by decide
    have c1 : (items.isEmpty || (1 : Int) == 1) = true := by simp
    wp_walk using wpAny_loadPart' hl
    repeat (first
      | (refine wpAny_ite_false (decide_eq_false (by rw [c0]; exact Bool.false_ne_true)) ?_; wp_walk using wpAny_loadPart' hl)
      | (refine wpAny_ite_true (decide_eq_true (by rw [c1])) ?_; wp_walk using wpAny_loadPart' hl))
    all_goals first | exact ⟨_, rfl, h _⟩ | skip
theorem int_rmul_listW (a : Int) (t : Tok) (l : Addr) (items : Array Value) (n : Nat) (dd : Option Addr) (sl : Array (Option Value)) :
    Meets (Builtin.«int.__rmul__» ⟨[.int a t, .ref l], []⟩) (fun _ R s => s.heap.get? l = some { cls := .type "list", dict := dd, data := .seq items n, slots := sl } ∧ R (.ok (.ret Value.notImplemented)) s) :=
  .of_wp fun prog w A R s h => by obtain ⟨hp, g, d, tk, os⟩ := s; obtain ⟨hl, h⟩ := h; wp_walk; exact ⟨_, rfl, h⟩
theorem list_mulW (l : Addr) (items : Array Value) (n : Nat) (dd : Option Addr) (sl : Array (Option Value)) (x : Int) (u : Tok) (hc0 : ¬(!Builtin.List.listFitsIndex x) = true) (hc1 : ¬items.size * x.toNat > (2 ^ 63 - 1) / 8) (hc2 : ¬Builtin.List.listTooLong (items.size * x.toNat) = true) :
    Meets (Builtin.«list.__mul__» ⟨[.ref l, .int x u], []⟩) (fun _ R s => s.heap.get? l = some { cls := .type "list", dict := dd, data := .seq items n, slots := sl } ∧ R (.ok (.ret (Value.ref s.heap.objs.size))) { s with heap := s.heap.push { cls := Value.type "list", data := Data.seq (List.foldl (fun x1 x2 => x1 ++ x2) #[] (List.replicate (if items.isEmpty = true then 0 else x.toNat) items)) }, toks := s.toks }) :=
  .of_wp fun prog w A R s h => by
    obtain ⟨hp, g, d, tk, os⟩ := s; obtain ⟨hl, h⟩ := h
    have hsz := AutoListH.joined_fits hc2
    wp_walk; refine wpAny_ite_false (decide_eq_false (Nat.not_lt.mpr hsz)) ?_; wp_walk; exact ⟨_, rfl, h⟩
/-- a list times an int -/
def rRepS (K : PySem.W.Frag) : R2 := fun x y H Q => ∃ l k xs, x = .ref l ∧ y = .int k ∧ SqL K H l xs ∧ -(2 ^ 63) ≤ k ∧ k < 2 ^ 63 ∧ xs.length * k.toNat ≤ sizeLine ∧
  ∀ p, H p = none → Q (.ref p) (upd H p (.lst (List.replicate k.toNat xs).flatten))
theorem op_repS {X : Cx} : OpR X (binaryOp .Mult) (rRepS X.K) := by
  intro pins s σ H x y v u Q I rx ry h
  obtain ⟨l, k, xs, rfl, rfl, hH, h1, h2, hz, q⟩ := h
  cases rx
  obtain ⟨t, rfl⟩ := ry
  obtain ⟨its, r, p1, _⟩ := I.list hH
  have hl := r.length
  obtain ⟨dd, n, sl, e⟩ := isList_of p1
  have hlen : its.toArray.size * k.toNat ≤ sizeLine := by rw [List.size_toArray, ← hl]; exact hz
  have hcap : ¬ its.toArray.size * k.toNat > (2 ^ 63 - 1) / 8 := by
    have : (sizeLine : Nat) ≤ (2 ^ 63 - 1) / 8 := by decide
    omega
  have hfit : ¬ (!Builtin.List.listFitsIndex k) = true := by
    rw [fitsIndex_both h1 h2]
    exact Bool.false_ne_true
  have hlong : ¬ Builtin.List.listTooLong (its.toArray.size * k.toNat) = true := by
    rw [notLongL hlen]
    exact Bool.false_ne_true
  have hnew : List.foldl (fun x1 x2 => x1 ++ x2) #[] (List.replicate (if its.toArray.isEmpty = true then 0 else k.toNat) its.toArray) = (List.replicate k.toNat its).flatten.toArray := by
    have f0 : ∀ m : Nat, List.foldl (fun x1 x2 => x1 ++ x2) #[] (List.replicate m its.toArray) = (List.replicate m its).flatten.toArray := fun m => by
      have := foldl_rep its m []
      rw [List.nil_append] at this
      exact this
    rw [f0]
    cases its with
    | nil => simp
    | cons a r' => rw [if_neg (by simp)]
  refine wpAny_binaryOp_repeat_ref (T := "list") (U := "int") (by decide) ⟨_, e, rfl⟩ (fun s' => typeIs_int s' k t) noFill_list_mul F.fills_int_mul F.slot_int_rmul repeat_list F.slot_int_index.lookup
    (call_meets F.slot_int_rmul (typeIs_int s k t) F.entry_int_rmul (F.args_int_rmul_2 _ _) (int_rmul_listW k t l its.toArray n dd sl)
      ⟨e, rfl, ⟨_, e, rfl⟩, call_meets F.slot_list_mul ⟨_, e, rfl⟩ F.entry_list_mul (F.args_list_mul_2 _ _) (list_mulW l its.toArray n dd sl k t hfit hcap hlong) ⟨e, ?_⟩⟩)
  rw [hnew]
  exact ⟨.ref _, _, I.lnew (t' := s.toks) (r.rep k.toNat) (by rw [PyProof.Rows.lm_len_rep_flat, Nat.mul_comm]; exact hz), rfl, q _ I.fresh⟩
def rRep1 (K : PySem.W.Frag) : R2 := fun x y H Q => ∃ l xs, x = .ref l ∧ y = .int 1 ∧ SqT K H l xs ∧ Q (.ref l) H
theorem op_rep1 {X : Cx} : OpR X (binaryOp .Mult) (rRep1 X.K) := by
  intro pins s σ H x y v u Q I rx ry h
  obtain ⟨l, xs, rfl, rfl, hT, q⟩ := h
  cases rx
  obtain ⟨t, rfl⟩ := ry
  obtain ⟨its, r, ⟨⟨cls, dd, data, sl⟩, ho, hc, n, hd⟩, hs⟩ := I.tuple hT
  simp only at hc hd
  subst hc hd
  refine wpAny_binaryOp_repeat_ref (T := "tuple") (U := "int") (by decide) ⟨_, ho, rfl⟩ (fun s' => typeIs_int s' 1 t) noFill_tuple_mul PySem.F.fills_int_mul PySem.F.slot_int_rmul repeat_tuple PySem.F.slot_int_index.lookup
    (call_meets PySem.F.slot_int_rmul (typeIs_int s 1 t) PySem.F.entry_int_rmul (PySem.F.args_int_rmul_2 _ _) (int_rmul_tuple 1 t l its.toArray n dd sl)
      ⟨ho, rfl, ⟨_, ho, rfl⟩, call_meets PySem.F.slot_tuple_mul ⟨_, ho, rfl⟩ PySem.F.entry_tuple_mul (PySem.F.args_tuple_mul_2 _ _) (tuple_mul1 l its.toArray n dd sl t (by rw [List.size_toArray, ← r.length]; exact hs)) ⟨ho, fun tk => ?_⟩⟩)
  exact ⟨.ref l, H, I.tok _, rfl, q⟩
end
section
variable {T : Type} {k : Tk T} {g : Glob T} {X : Cx}
theorem okLen_le {n : Nat} (h : okLen n = true) : n ≤ sizeLine := of_decide_eq_true h
theorem bind2 {α β : Type} {o : Option α} {f : α → Option β} {z : β} (h : o.bind f = some z) : ∃ x, o = some x ∧ f x = some z := by
  cases o with
  | none => cases h
  | some x => exact ⟨x, rfl, h⟩
/-- an operator of two operands, soundness by its values -/
theorem se_bin {o : BOp} {op : Operator} {r : R2} {ea eb : Expr} {pos : Pos} {a b : E} (ho : OpR X (binaryOp op) r) (ha : SE k g X ea a) (hb : SE k g X eb b)
    (hr : ∀ (τ : T) (F F' : Fz) (H H' : Hp) (x y d : PD) (v w : V) (Q : VK) (τ0 : T), Gd k τ0 F H → Le k.Z F H F' H' → Gd k τ F' H' → Rb X.K k.Z k.tv F' H' v x → Rb X.K k.Z k.tv F' H' w y → bop o x y = some d →
      (∀ v F'' H'', Le k.Z F H F'' H'' → Gd k τ F'' H'' → FrV X.K k.tv H F'' H'' v d → Q v H'') → r v w H' Q) :
    ∃ t, PE X (.BinOp ea op eb pos) t ∧ RF k g X t (.bin o a b) := by
  obtain ⟨ta, pa, _, ba, _⟩ := ha.ex
  obtain ⟨tb, pb, _, bb, _⟩ := hb.ex
  refine ⟨tOp r ta tb, pe_op ho pa pb, fun H0 ρ τ σ F H d τ' Q ok gd e q => ?_⟩
  rw [ev] at e
  obtain ⟨⟨x, τ1⟩, e1, e⟩ := bind2 e
  obtain ⟨⟨y, τ2⟩, e2, e⟩ := bind2 e
  obtain ⟨d', e3, e4⟩ := Option.map_eq_some_iff.mp e
  cases e4
  exact two ba bb ok gd e1 e2 fun v w F' H' l g' rv rw' => hr τ2 F F' H H' x y d v w Q τ gd l g' rv rw' e3 q
theorem frv_rp {H : Hp} {F' : Fz} {H' : Hp} {v : V} {d : PD} (h : Rp X.K k.tv F' H' v d) (n : ∀ ds, d ≠ .list ds) : FrV X.K k.tv H F' H' v d := by
  cases d with
  | list ds => exact absurd rfl (n ds)
  | _ => exact h
theorem se_add {ea eb : Expr} {pos : Pos} {a b : E} (ha : SE k g X ea a) (hb : SE k g X eb b) : SE k g X (.BinOp ea .Add eb pos) (.bin .add a b) := by
  obtain ⟨t, h, r⟩ := se_bin (o := .add) (pos := pos) op_add3 ha hb fun τ F F' H H' x y d v w Q τ0 g0 l g' rv rw' e q => by
    unfold bop at e
    split at e
    all_goals first | contradiction | skip
    · cases e
      cases rv.int; cases rw'.int
      exact .inl ⟨_, _, rfl, rfl, q _ F' H' l g' (Rp.int _)⟩
    · split at e
      · rename_i hz
        cases e
        cases rv.str; cases rw'.str
        exact .inr (.inl ⟨_, _, rfl, rfl, okLen_le hz, q _ F' H' l g' (Rp.str _)⟩)
      · cases e
    · split at e
      · rename_i hz
        cases e
        obtain ⟨a1, xs, rfl, h1, r1⟩ := rv.list
        obtain ⟨b1, ys, rfl, h2, r2⟩ := rw'.list
        refine .inr (.inr (.inl ⟨a1, b1, xs, ys, rfl, rfl, h1, h2, by rw [r1.length, r2.length]; exact okLen_le hz, fun p hp => ?_⟩))
        exact q _ F' _ (le_new l hp) (gd_new g' hp) (frv_new l g' hp (r1.append r2))
      · cases e
    · split at e
      · rename_i hz
        cases e
        cases rv.rpT with | tup h1 r1 => ?_
        cases rw'.rpT with | tup h2 r2 => ?_
        refine .inr (.inr (.inr ⟨_, _, _, _, rfl, rfl, h1.sq, h2.sq, by rw [r1.length, r2.length]; exact okLen_le hz, fun n1 => ?_, fun _ n2 => ?_, fun _ _ p hp => ?_⟩))
        · subst n1
          cases r1
          exact q _ F' H' l g' (Rp.tup h2 r2)
        · subst n2
          cases r2
          rw [List.append_nil] at q
          exact q _ F' H' l g' (Rp.tup h1 r1)
        · exact q _ F' _ (le_new l hp) (gd_new g' hp) (rp_tup g' hp (r1.append r2))
      · cases e
    all_goals cases e
  exact .ofF h r
/-- an operator whose answers are numbers -/
theorem se_num {o : BOp} {op : Operator} {C : Int → Int → Prop} {f : Int → Int → Int} {ea eb : Expr} {pos : Pos} {a b : E} (ho : OpR X (binaryOp op) (rI C fun i j => .int (f i j))) (ha : SE k g X ea a) (hb : SE k g X eb b)
    (hv : ∀ x y d, bop o x y = some d → ∃ i j, x = .int i ∧ y = .int j ∧ C i j ∧ d = .int (f i j)) (hf : (E.bin o a b).isFr = false) : SE k g X (.BinOp ea op eb pos) (.bin o a b) := by
  obtain ⟨t, h, r⟩ := se_bin (o := o) (pos := pos) ho ha hb fun τ F F' H H' x y d v w Q τ0 g0 l g' rv rw' e q => by
    obtain ⟨i, j, rfl, rfl, c, rfl⟩ := hv x y d e
    cases rv.int; cases rw'.int
    exact ⟨i, j, rfl, rfl, c, q _ F' H' l g' (Rp.int _)⟩
  exact .ofX h r.x hf
theorem se_sub {ea eb : Expr} {pos : Pos} {a b : E} (ha : SE k g X ea a) (hb : SE k g X eb b) : SE k g X (.BinOp ea .Sub eb pos) (.bin .sub a b) := by
  obtain ⟨t, h, r⟩ := se_bin (o := .sub) (pos := pos) op_sub ha hb fun τ F F' H H' x y d v w Q τ0 g0 l g' rv rw' e q => by
    unfold bop at e
    split at e
    all_goals first | contradiction | skip
    · cases e
      cases rv.int; cases rw'.int
      exact ⟨_, _, rfl, rfl, q _ F' H' l g' (Rp.int _)⟩
    all_goals cases e
  exact .ofX h r.x rfl
theorem se_mul {ea eb : Expr} {pos : Pos} {a b : E} (ha : SE k g X ea a) (hb : SE k g X eb b) : SE k g X (.BinOp ea .Mult eb pos) (.bin .mul a b) := by
  obtain ⟨t, h, r⟩ := se_bin (o := .mul) (pos := pos) (op_mulW.or (op_repT.or op_rep1)) ha hb fun τ F F' H H' x y d v w Q τ0 g0 l g' rv rw' e q => by
    unfold bop at e
    split at e
    all_goals first | contradiction | skip
    · split at e
      · rename_i h
        cases e
        cases rv.int; cases rw'.int
        exact .inl ⟨_, _, rfl, rfl, (of_decide_eq_true (p := _ < _) h), q _ F' H' l g' (Rp.int _)⟩
      · cases e
    · split at e
      · rename_i h
        cases e
        cases rw'.int
        subst h
        have r1 := rv.rpT
        cases r1 with | tup h1 ra => ?_
        exact .inr (.inr ⟨_, _, rfl, rfl, h1.sq, q _ F' H' l g' (Rp.tup h1 ra)⟩)
      · split at e
        · rename_i h
          cases e
          cases rw'.int
          simp only [Bool.and_eq_true, decide_eq_true_eq, Bool.not_eq_true'] at h
          obtain ⟨⟨⟨h1, h2⟩, h3⟩, h4⟩ := h
          cases rv.rpT with | tup h5 ra => ?_
          refine .inr (.inl ⟨_, _, _, rfl, rfl, h5.sq, ?_, h2, h3, by rw [ra.length]; exact h4, fun p hp => q _ F' _ (le_new l hp) (gd_new g' hp) (rp_tup g' hp (ra.rep _))⟩)
          rintro rfl
          cases ra
          cases h1
        · cases e
    all_goals cases e
  exact .ofX h r.x rfl
theorem se_fdiv {ea eb : Expr} {pos : Pos} {a b : E} (ha : SE k g X ea a) (hb : SE k g X eb b) : SE k g X (.BinOp ea .FloorDiv eb pos) (.bin .fdiv a b) :=
  se_num op_fdivX ha hb (fun x y d e => by
    unfold bop at e
    split at e
    all_goals first | contradiction | skip
    · split at e
      · rename_i h
        cases e
        rw [Bool.and_eq_true] at h
        exact ⟨_, _, rfl, rfl, ⟨of_decide_eq_true h.1, of_decide_eq_true h.2⟩, rfl⟩
      · cases e
    all_goals cases e) rfl
theorem se_mod {ea eb : Expr} {pos : Pos} {a b : E} (ha : SE k g X ea a) (hb : SE k g X eb b) : SE k g X (.BinOp ea .Mod eb pos) (.bin .mod a b) :=
  se_num op_modN ha hb (fun x y d e => by
    unfold bop at e
    split at e
    all_goals first | contradiction | skip
    · split at e
      · cases e
      · rename_i h
        cases e
        exact ⟨_, _, rfl, rfl, h, rfl⟩
    all_goals cases e) rfl
theorem se_pow {ea eb : Expr} {pos : Pos} {a b : E} (ha : SE k g X ea a) (hb : SE k g X eb b) : SE k g X (.BinOp ea .Pow eb pos) (.bin .pow a b) :=
  se_num op_pow ha hb (fun x y d e => by
    unfold bop at e
    split at e
    all_goals first | contradiction | skip
    · split at e
      · rename_i h
        cases e
        rw [Bool.and_eq_true, Bool.and_eq_true] at h
        exact ⟨_, _, rfl, rfl, ⟨of_decide_eq_true h.1.1, of_decide_eq_true h.1.2, of_decide_eq_true h.2⟩, rfl⟩
      · cases e
    all_goals cases e) rfl
theorem se_shl {ea eb : Expr} {pos : Pos} {a b : E} (ha : SE k g X ea a) (hb : SE k g X eb b) : SE k g X (.BinOp ea .LShift eb pos) (.bin .shl a b) :=
  se_num op_shl ha hb (fun x y d e => by
    unfold bop at e
    split at e
    all_goals first | contradiction | skip
    · split at e
      · rename_i h
        cases e
        rw [Bool.and_eq_true, Bool.and_eq_true] at h
        exact ⟨_, _, rfl, rfl, ⟨of_decide_eq_true h.1.1, of_decide_eq_true h.1.2, of_decide_eq_true h.2⟩, rfl⟩
      · cases e
    all_goals cases e) rfl
/-- xs * n, a list -/
theorem se_rep {ea eb : Expr} {pos : Pos} {a b : E} (ha : SE k g X ea a) (hb : SE k g X eb b) : SE k g X (.BinOp ea .Mult eb pos) (.bin .rep a b) := by
  obtain ⟨t, h, r⟩ := se_bin (o := .rep) (pos := pos) op_repS ha hb fun τ F F' H H' x y d v w Q τ0 g0 l g' rv rw' e q => by
    unfold bop at e
    split at e
    all_goals first | contradiction | skip
    · split at e
      · rename_i hc
        cases e
        rw [Bool.and_eq_true, Bool.and_eq_true] at hc
        obtain ⟨a1, us, rfl, hH, ra⟩ := rv.list
        cases rw'.int
        have hz := okLen_le hc.2
        have h1 := of_decide_eq_true hc.1.1
        have h2 := of_decide_eq_true hc.1.2
        exact ⟨a1, _, us, rfl, rfl, hH, by omega, by omega, by rw [ra.length]; exact hz, fun p hp => q _ F' _ (le_new l hp) (gd_new g' hp) (frv_new l g' hp (ra.rep _))⟩
      · cases e
    all_goals cases e
  exact .ofF h r
theorem se_neg {ea : Expr} {pos : Pos} {a : E} (ha : SE k g X ea a) : SE k g X (.UnaryOp .USub ea pos) (.neg a) := by
  obtain ⟨ta, pa, _, ba, _⟩ := ha.ex
  refine .ofX (pe_un un_neg pa) (fun H0 ρ τ σ F H d τ' Q ok gd e q => ?_) rfl
  rw [ev] at e
  obtain ⟨⟨x, τ1⟩, e1, e⟩ := bind2 e
  refine ba H0 ρ τ σ F H x τ1 _ ok gd e1 fun v F1 H1 l1 g1 r1 => ?_
  cases x with
  | int i =>
    cases e
    cases r1.int
    exact ⟨i, rfl, q _ F1 H1 l1 g1 (.int _)⟩
  | _ => cases e
end
end Fh
namespace Fh
open PySem L2 PyProof.Rows

section
variable {X : Cx}
/-! ### comparisons by values -/
def rInT (K : PySem.W.Frag) : R2 := fun x y H Q => ∃ d ds, Dp K H x d ∧ Dp K H y (.tuple ds) ∧ SeqAt.shaped d = true ∧ SeqAt.shaped (.tuple ds) = true ∧ Q (.bl (ds.any fun z => PyData.eqv z d)) H
def rNotInT (K : PySem.W.Frag) : R2 := fun x y H Q => ∃ d ds, Dp K H x d ∧ Dp K H y (.tuple ds) ∧ SeqAt.shaped d = true ∧ SeqAt.shaped (.tuple ds) = true ∧ Q (.bl (!ds.any fun z => PyData.eqv z d)) H
theorem room_shaped {A : Around} {n : Nat} {d : PyData} (h : SeqAt.shaped d = true) (hu : A.units + 65 < cLine) : A.units + 1 + min n d.depth < cLine := by
  have h1 := SeqAt.depth_of_shaped h
  have h2 : min n d.depth ≤ d.depth := Nat.min_le_right _ _
  omega
theorem op_inT (hu : X.A.units + 65 < cLine) : OpR X (compareOp .In) (rInT X.K) := by
  intro pins s σ H x y v u Q I rx ry h
  obtain ⟨d, ds, hd, he, sd, se, q⟩ := h
  obtain ⟨as, r1⟩ := Dp.reads I d x v hd rx
  obtain ⟨bs, r2⟩ := Dp.reads I (.tuple ds) y u he ry
  exact SeqAt.in_tuple_reads r2 r1 (SeqAt.canLay_of_shaped se) (SeqAt.canLay_of_shaped sd) (room_shaped sd hu) ⟨.bl _, H, I, rfl, q⟩
theorem op_notInT (hu : X.A.units + 65 < cLine) : OpR X (compareOp .NotIn) (rNotInT X.K) := by
  intro pins s σ H x y v u Q I rx ry h
  obtain ⟨d, ds, hd, he, sd, se, q⟩ := h
  obtain ⟨as, r1⟩ := Dp.reads I d x v hd rx
  obtain ⟨bs, r2⟩ := Dp.reads I (.tuple ds) y u he ry
  exact SeqAt.notIn_tuple_reads r2 r1 (SeqAt.canLay_of_shaped se) (SeqAt.canLay_of_shaped sd) (room_shaped sd hu) ⟨.bl _, H, I, rfl, q⟩
/-! order of data of one kind -/
theorem natLt_eq : ∀ l m : List Nat, natLt l m = decide (l < m)
  | [], [] => by simp [natLt]
  | [], _ :: _ => by simp [natLt]
  | _ :: _, [] => by simp [natLt]
  | x :: xs, y :: ys => by
    rw [natLt]
    by_cases h : x = y
    · subst h
      rw [if_pos rfl, natLt_eq xs ys]
      simp [List.cons_lt_cons_iff]
    · rw [if_neg h]
      simp [List.cons_lt_cons_iff, h]
mutual
theorem pLt_eq : ∀ x y : PD, PySem.W.alike x y = true → PySem.W.dataLt x y = pLt x y
  | .none, y, h => by
    cases y with
    | none => rfl
    | _ => exact absurd h (by simp [PySem.W.alike])
  | .bool a, y, h => by
    cases y with
    | bool b => rw [PySem.W.dataLt_bool]; cases a <;> cases b <;> rfl
    | _ => exact absurd h (by simp [PySem.W.alike])
  | .int a, y, h => by
    cases y with
    | int b => rw [PySem.W.dataLt_int]; rfl
    | _ => exact absurd h (by simp [PySem.W.alike])
  | .str a, y, h => by
    cases y with
    | str b => rw [PySem.W.dataLt_str]; exact (natLt_eq _ _).symm
    | _ => exact absurd h (by simp [PySem.W.alike])
  | .list xs, y, h => by
    cases y with
    | list ys =>
      rw [PySem.W.dataLt_list, pLt]
      exact pLtA_eq xs ys (by simpa [PySem.W.alike] using h)
    | _ => exact absurd h (by simp [PySem.W.alike])
  | .tuple xs, y, h => by
    cases y with
    | tuple ys =>
      rw [PySem.W.dataLt_tuple, pLt]
      exact pLtA_eq xs ys (by simpa [PySem.W.alike] using h)
    | _ => exact absurd h (by simp [PySem.W.alike])
  | .dict _, y, h => absurd h (by cases y <;> simp [PySem.W.alike])
theorem pLtA_eq : ∀ xs ys : List PD, PySem.W.alikeAll xs ys = true → PyProof.Rows.lexLt itemOrd (PySem.W.keyToksAll xs) (PySem.W.keyToksAll ys) = pLtA xs ys
  | [], [], _ => rfl
  | [], _ :: _, _ => by
    rw [pLtA, show PySem.W.keyToksAll [] = [.inl 0] from rfl, PySem.W.toks_all_cons]
    exact PyProof.Rows.lex_diff (O := itemOrd) (by simp)
  | x :: xs, [], _ => by
    rw [PySem.W.toks_all_cons, show PySem.W.keyToksAll [] = [.inl 0] from rfl, pLtA]
    exact PyProof.Rows.lex_diff (O := itemOrd) (by simp)
  | x :: xs, y :: ys, h => by
    rw [pLtA]
    have h' := PySem.W.alike_all_cons h
    cases e : PyData.eqv x y with
    | true => rw [if_pos rfl, PySem.W.dataLt_all_yes h'.1 e, pLtA_eq xs ys h'.2]
    | false => rw [if_neg Bool.false_ne_true, PySem.W.dataLt_all_no h'.1 e, pLt_eq x y h'.1]
end
def rOrdD (K : PySem.W.Frag) (f : PD → PD → Bool) : R2 := fun x y H Q => ∃ d e, Dp K H x d ∧ Dp K H y e ∧ PySem.W.alike d e = true ∧ d ≠ .none ∧ d.depth ≤ 64 ∧ Q (.bl (f d e)) H
theorem op_ltD (hu : X.A.units + 65 < cLine) : OpR X (compareOp .Lt) (rOrdD X.K PySem.W.dataLt) := by
  intro pins s σ H x y v u Q I rx ry h
  obtain ⟨d, e, hd, he, ha, hn, hz, q⟩ := h
  obtain ⟨as, r1⟩ := Dp.reads I d x v hd rx
  obtain ⟨bs, r2⟩ := Dp.reads I e y u he ry
  exact PySem.W.lt_data r1 r2 ha hn (by have := Nat.min_le_left d.depth e.depth; omega) ⟨.bl _, H, I, rfl, q⟩
theorem op_gtD (hu : X.A.units + 65 < cLine) : OpR X (compareOp .Gt) (rOrdD X.K fun d e => PySem.W.dataLt e d) := by
  intro pins s σ H x y v u Q I rx ry h
  obtain ⟨d, e, hd, he, ha, hn, hz, q⟩ := h
  obtain ⟨as, r1⟩ := Dp.reads I d x v hd rx
  obtain ⟨bs, r2⟩ := Dp.reads I e y u he ry
  exact PySem.W.gt_data r1 r2 ha hn (by have := Nat.min_le_left d.depth e.depth; omega) ⟨.bl _, H, I, rfl, q⟩
theorem op_leD (hu : X.A.units + 65 < cLine) : OpR X (compareOp .LtE) (rOrdD X.K fun d e => !PySem.W.dataLt e d) := by
  intro pins s σ H x y v u Q I rx ry h
  obtain ⟨d, e, hd, he, ha, hn, hz, q⟩ := h
  obtain ⟨as, r1⟩ := Dp.reads I d x v hd rx
  obtain ⟨bs, r2⟩ := Dp.reads I e y u he ry
  exact PySem.W.le_data r1 r2 ha hn (by have := Nat.min_le_left d.depth e.depth; omega) ⟨.bl _, H, I, rfl, q⟩
theorem op_geD (hu : X.A.units + 65 < cLine) : OpR X (compareOp .GtE) (rOrdD X.K fun d e => !PySem.W.dataLt d e) := by
  intro pins s σ H x y v u Q I rx ry h
  obtain ⟨d, e, hd, he, ha, hn, hz, q⟩ := h
  obtain ⟨as, r1⟩ := Dp.reads I d x v hd rx
  obtain ⟨bs, r2⟩ := Dp.reads I e y u he ry
  exact PySem.W.ge_data r1 r2 ha hn (by have := Nat.min_le_left d.depth e.depth; omega) ⟨.bl _, H, I, rfl, q⟩
def cOp : COp → CmpOp
  | .eq => .Eq | .ne => .NotEq | .lt => .Lt | .le => .LtE | .gt => .Gt | .ge => .GtE | .inn => .In | .nin => .NotIn
def cR (K : PySem.W.Frag) : COp → R2
  | .eq => rEqD K
  | .ne => rNeD K
  | .lt => fun x y H Q => rI0 (fun i j => .bl (decide (i < j))) x y H Q ∨ rOrdD K (PySem.W.dataLt) x y H Q
  | .le => fun x y H Q => rI0 (fun i j => .bl (decide (i ≤ j))) x y H Q ∨ rOrdD K (fun d e => !PySem.W.dataLt e d) x y H Q
  | .gt => fun x y H Q => rI0 (fun i j => .bl (decide (j < i))) x y H Q ∨ rOrdD K (fun d e => PySem.W.dataLt e d) x y H Q
  | .ge => fun x y H Q => rI0 (fun i j => .bl (decide (j ≤ i))) x y H Q ∨ rOrdD K (fun d e => !PySem.W.dataLt d e) x y H Q
  | .inn => fun x y H Q => rInD K x y H Q ∨ rInT K x y H Q
  | .nin => fun x y H Q => rNotInD K x y H Q ∨ rNotInT K x y H Q
theorem op_cR (hu : X.A.units + 65 < cLine) : ∀ o : COp, OpR X (compareOp (cOp o)) (cR X.K o)
  | .eq => op_eqD (by omega)
  | .ne => op_neD (by omega)
  | .lt => op_lt.or (op_ltD hu)
  | .le => op_le.or (op_leD hu)
  | .gt => op_gt.or (op_gtD hu)
  | .ge => op_ge.or (op_geD hu)
  | .inn => (op_inD hu).or (op_inT hu)
  | .nin => (op_notInD hu).or (op_notInT hu)
end

section
variable {T : Type} {k : Tk T} {g : Glob T} {X : Cx}
theorem cop_ok {o : COp} {x y : PD} {c : Bool} {v w : V} {F : Fz} {H : Hp} {Q : VK} (e : cop o x y = some c) (rv : Rb X.K k.Z k.tv F H v x) (rw' : Rb X.K k.Z k.tv F H w y) (q : Q (.bl c) H) : cR X.K o v w H Q := by
  unfold cop at e
  split at e
  case h_1 | h_2 =>
    split at e
    · rename_i h
      rw [Bool.and_eq_true] at h
      cases e
      exact ⟨_, _, rv.dp (SeqAt.canLay_of_shaped h.1), rw'.dp (SeqAt.canLay_of_shaped h.2), h.1, h.2, q⟩
    · cases e
  case h_3 | h_4 | h_5 | h_6 =>
    cases e
    cases rv.int; cases rw'.int
    exact .inl ⟨_, _, rfl, rfl, q⟩
  case h_7 | h_8 =>
    split at e
    · rename_i h
      rw [Bool.and_eq_true] at h
      cases e
      exact .inl ⟨_, _, rv.dp (SeqAt.canLay_of_shaped h.1), rw'.dp (SeqAt.canLay_of_shaped h.2), h.1, h.2, q⟩
    · cases e
  case h_9 | h_10 =>
    split at e
    · rename_i h
      rw [Bool.and_eq_true] at h
      cases e
      exact .inr ⟨_, _, rv.dp (SeqAt.canLay_of_shaped h.1), rw'.dp (SeqAt.canLay_of_shaped h.2), h.1, h.2, q⟩
    · cases e
  case h_11 | h_12 | h_13 | h_14 =>
    split at e
    · rename_i h
      unfold okCmp at h
      simp only [Bool.and_eq_true, Bool.not_eq_true'] at h
      obtain ⟨⟨⟨ha, hn⟩, h1⟩, h2⟩ := h
      cases e
      refine .inr ⟨_, _, rv.dp (SeqAt.canLay_of_shaped h1), rw'.dp (SeqAt.canLay_of_shaped h2), ha, ?_, SeqAt.depth_of_shaped h1, ?_⟩
      · rintro rfl
        cases hn
      · have hb : PySem.W.alike y x = true := by rw [PySem.W.alike_comm]; exact ha
        try dsimp only
        first
          | (rw [pLt_eq _ _ ha]; exact q)
          | (rw [pLt_eq _ _ (hb)]; exact q)
    · cases e
  all_goals cases e
theorem se_cmp {o : COp} {ea eb : Expr} {pos : Pos} {a b : E} (hu : X.A.units + 65 < cLine) (hm : behindInMarks (cOp o) eb = false) (ha : SE k g X ea a) (hb : SE k g X eb b) : SE k g X (.Compare ea [cOp o] [eb] pos) (.cmp o a b) := by
  obtain ⟨ta, pa, _, ba, _⟩ := ha.ex
  obtain ⟨tb, pb, _, bb, _⟩ := hb.ex
  refine .ofX (pe_cmpR (op_cR hu o) pa pb hm) (fun H0 ρ τ σ F H d τ' Q ok gd e q => ?_) rfl
  rw [ev] at e
  obtain ⟨⟨x, τ1⟩, e1, e⟩ := bind2 e
  obtain ⟨⟨y, τ2⟩, e2, e⟩ := bind2 e
  obtain ⟨d', e3, e4⟩ := Option.map_eq_some_iff.mp e
  cases e4
  exact two ba bb ok gd e1 e2 fun v w F' H' l g' rv rw' => cop_ok (k := k) e3 rv rw' (q _ F' H' l g' (.bl _))
theorem st_cmp {o : COp} {ea eb : Expr} {pos : Pos} {a b : E} (hu : X.A.units + 65 < cLine) (hm : behindInMarks (cOp o) eb = false) (ha : SE k g X ea a) (hb : SE k g X eb b) : ST k g X (.Compare ea [cOp o] [eb] pos) (.cmp o a b) := by
  obtain ⟨ta, pa, _, ba, _⟩ := ha.ex
  obtain ⟨tb, pb, _, bb, _⟩ := hb.ex
  refine ⟨_, pt_cmpR (op_cR hu o) pa pb hm, fun H0 ρ τ σ F H d τ' Q ok gd e q => ?_⟩
  unfold evT at e
  rw [ev] at e
  obtain ⟨⟨z, τ3⟩, e0, et⟩ := bind2 e
  obtain ⟨⟨x, τ1⟩, e1, e⟩ := bind2 e0
  obtain ⟨⟨y, τ2⟩, e2, e⟩ := bind2 e
  obtain ⟨d', e3, e4⟩ := Option.map_eq_some_iff.mp e
  cases e4
  cases et
  exact two ba bb ok gd e1 e2 fun v w F' H' l g' rv rw' => cop_ok (k := k) e3 rv rw' ⟨_, rfl, q F' H' l g'⟩
theorem marks2 {o p : CmpOp} {b c : Expr} (h : behindInMarks p c = false) : lastMarks [o, p] [b, c] = false := h
/-- the reading of a chain -/
theorem chain_ok {o p : COp} {a b c : E} {ta tb tc : TE} (ba : RB k g X ta a) (bb : RB k g X tb b) (bc : RB k g X tc c) {H0 : Hp} {ρ : Ev} {τ τ' : T} {σ : Sg} {F : Fz} {H : Hp} {d : PD} {Q : VK} (ok : Okk k X.K H0 ρ σ F H) (gd : Gd k τ F H)
    (e : ev g (.ch o p a b c) ρ τ = some (d, τ')) (q : ∀ z F' H', d = .bool z → Le k.Z F H F' H' → Gd k τ' F' H' → Q (.bl z) H') : tChain (cR X.K o) (cR X.K p) ta tb tc σ H Q := by
  rw [ev] at e
  obtain ⟨⟨x, τ1⟩, e1, e⟩ := bind2 e
  obtain ⟨⟨y, τ2⟩, e2, e⟩ := bind2 e
  obtain ⟨z, e3, e⟩ := bind2 e
  refine two ba bb ok gd e1 e2 fun v w F' H' l g' rv rw' => cop_ok (k := k) e3 rv rw' ⟨z, rfl, ?_⟩
  cases z with
  | true =>
    rw [if_pos rfl] at e ⊢
    obtain ⟨⟨u, τ3⟩, e4, e⟩ := bind2 e
    obtain ⟨d', e5, e6⟩ := Option.map_eq_some_iff.mp e
    cases e6
    refine bc H0 ρ τ2 σ F' H' u _ _ (ok.le gd l) g' e4 fun x3 F3 H3 l3 g3 r3 => ?_
    exact cop_ok (k := k) e5 (rw'.le g' l3) r3 (q _ F3 H3 rfl (l.trans l3) g3)
  | false =>
    rw [if_neg Bool.false_ne_true] at e ⊢
    cases e
    exact q _ F' H' rfl l g'
theorem se_ch {o p : COp} {ea eb ec : Expr} {pos : Pos} {a b c : E} (hu : X.A.units + 65 < cLine) (hm : behindInMarks (cOp p) ec = false) (ha : SE k g X ea a) (hb : SE k g X eb b) (hc : SE k g X ec c) : SE k g X (.Compare ea [cOp o, cOp p] [eb, ec] pos) (.ch o p a b c) := by
  obtain ⟨ta, pa, _, ba, _⟩ := ha.ex
  obtain ⟨tb, pb, _, bb, _⟩ := hb.ex
  obtain ⟨tc, pc, _, bc, _⟩ := hc.ex
  refine .ofX (pe_chain (op_cR hu o) (op_cR hu p) pa pb pc (marks2 hm)) (fun H0 ρ τ σ F H d τ' Q ok gd e q => ?_) rfl
  exact chain_ok ba bb bc ok gd e fun z F' H' ez l g' => q _ F' H' l g' (by rw [ez]; exact .bl z)
theorem st_ch {o p : COp} {ea eb ec : Expr} {pos : Pos} {a b c : E} (hu : X.A.units + 65 < cLine) (hm : behindInMarks (cOp p) ec = false) (ha : SE k g X ea a) (hb : SE k g X eb b) (hc : SE k g X ec c) : ST k g X (.Compare ea [cOp o, cOp p] [eb, ec] pos) (.ch o p a b c) := by
  obtain ⟨ta, pa, _, ba, _⟩ := ha.ex
  obtain ⟨tb, pb, _, bb, _⟩ := hb.ex
  obtain ⟨tc, pc, _, bc, _⟩ := hc.ex
  refine ⟨_, pt_chain (op_cR hu o) (op_cR hu p) pa pb pc (marks2 hm), fun H0 ρ τ σ F H z τ' Q ok gd e q => ?_⟩
  unfold evT at e
  obtain ⟨⟨d, τ3⟩, e0, et⟩ := bind2 e
  refine chain_ok ba bb bc ok gd e0 fun z' F' H' ez l g' => ?_
  subst ez
  cases et
  exact ⟨_, rfl, q F' H' l g'⟩

/-! a chain of three -/
def tChain3 (r r' r2 : R2) (ta tb tc td : TE) : TE := fun σ H Q => ta σ H fun x H1 => tb σ H1 fun y H2 => r x y H2 fun z H3 => ∃ k, z = .bl k ∧
  (if k = true then tc σ H3 fun w' H4 => r' y w' H4 fun z2 H5 => ∃ k2, z2 = .bl k2 ∧ (if k2 = true then td σ H5 fun w2 H6 => r2 w' w2 H6 Q else Q (.bl false) H5) else Q (.bl false) H3)
theorem pe_chain3 {op op' op2 : CmpOp} {r r' r2 : R2} {a b c d : Expr} {ta tb tc td : TE} {pos : Pos} (ho : OpR X (compareOp op) r) (ho' : OpR X (compareOp op') r') (ho2 : OpR X (compareOp op2) r2) (ha : PE X a ta) (hb : PE X b tb) (hc : PE X c tc) (hd : PE X d td)
    (hm : lastMarks [op, op', op2] [b, c, d] = false) : PE X (.Compare a [op, op', op2] [b, c, d] pos) (tChain3 r r' r2 ta tb tc td) := by
  refine ⟨fun pins s σ H Q I h => ?_⟩
  refine Compare_chain (thn (ha.run pins s σ H _ I h) fun v s1 ⟨x, H1, I1, r1, q1⟩ => chain_link (thn (hb.run pins s1 σ H1 _ I1 q1) fun u s2 ⟨y, H2, I2, r2, q2⟩ =>
    thn (ho pins s2 σ H2 x y v u _ I2 r1 r2 q2) fun d s3 ⟨z, H3, I3, r3, k, e, q3⟩ => ?_)) hm
  subst e
  cases r3
  refine wpAny_truthy_bool ?_
  cases k with
  | false => exact ite_ff ⟨.bl false, H3, I3, rfl, q3⟩
  | true =>
    refine ite_tt (chain_link (thn (hc.run pins s3 σ H3 _ I3 q3) fun w' s4 ⟨z', H4, I4, r4, q4⟩ => thn (ho' pins s4 σ H4 y z' u w' _ I4 r2 r4 q4) fun d2 s5 ⟨z2, H5, I5, r5, k2, e2, q5⟩ => ?_))
    subst e2
    cases r5
    refine wpAny_truthy_bool ?_
    cases k2 with
    | false => exact ite_ff ⟨.bl false, H5, I5, rfl, q5⟩
    | true => exact ite_tt (chain_last (thn (hd.run pins s5 σ H5 _ I5 q5) fun w2 s6 ⟨z3, H6, I6, r6, q6⟩ => ho2 pins s6 σ H6 z' z3 w' w2 Q I6 r4 r6 q6))
theorem pt_chain3 {op op' op2 : CmpOp} {r r' r2 : R2} {a b c d : Expr} {ta tb tc td : TE} {pos : Pos} (ho : OpR X (compareOp op) r) (ho' : OpR X (compareOp op') r') (ho2 : OpR X (compareOp op2) r2) (ha : PE X a ta) (hb : PE X b tb) (hc : PE X c tc) (hd : PE X d td)
    (hm : lastMarks [op, op', op2] [b, c, d] = false) : PT X (.Compare a [op, op', op2] [b, c, d] pos) (tTest (tChain3 r r' r2 ta tb tc td)) := by
  refine ⟨fun pins s σ H Q I h => ?_⟩
  refine isTrue_chain (thn (ha.run pins s σ H _ I h) fun v s1 ⟨x, H1, I1, r1, q1⟩ => test_link (thn (hb.run pins s1 σ H1 _ I1 q1) fun u s2 ⟨y, H2, I2, r2, q2⟩ =>
    thn (ho pins s2 σ H2 x y v u _ I2 r1 r2 q2) fun d s3 ⟨z, H3, I3, r3, k, e, q3⟩ => ?_)) hm
  subst e
  cases r3
  refine wpAny_truthy_bool ?_
  cases k with
  | false =>
    obtain ⟨k', e', q'⟩ := q3
    cases e'
    exact ite_ff ⟨H3, I3, q'⟩
  | true =>
    refine ite_tt (test_link (thn (hc.run pins s3 σ H3 _ I3 q3) fun w' s4 ⟨z', H4, I4, r4, q4⟩ => thn (ho' pins s4 σ H4 y z' u w' _ I4 r2 r4 q4) fun d2 s5 ⟨z2, H5, I5, r5, k2, e2, q5⟩ => ?_))
    subst e2
    cases r5
    refine wpAny_truthy_bool ?_
    cases k2 with
    | false =>
      obtain ⟨k', e', q'⟩ := q5
      cases e'
      exact ite_ff ⟨H5, I5, q'⟩
    | true =>
      refine ite_tt (test_last (thn (hd.run pins s5 σ H5 _ I5 q5) fun w2 s6 ⟨z3, H6, I6, r6, q6⟩ => thn (ho2 pins s6 σ H6 z' z3 w' w2 _ I6 r4 r6 q6) fun d' s7 ⟨z4, H7, I7, r7, k3, e3, q7⟩ => ?_))
      subst e3
      cases r7
      exact wpAny_truthy_bool ⟨H7, I7, q7⟩
theorem marks3 {o p r : CmpOp} {b c d : Expr} (h : behindInMarks r d = false) : lastMarks [o, p, r] [b, c, d] = false := h
theorem chain3_ok {o p r : COp} {a b c f : E} {ta tb tc td : TE} (ba : RB k g X ta a) (bb : RB k g X tb b) (bc : RB k g X tc c) (bd : RB k g X td f) {H0 : Hp} {ρ : Ev} {τ τ' : T} {σ : Sg} {F : Fz} {H : Hp} {d : PD} {Q : VK} (ok : Okk k X.K H0 ρ σ F H) (gd : Gd k τ F H)
    (e : ev g (.ch3 o p r a b c f) ρ τ = some (d, τ')) (q : ∀ z F' H', d = .bool z → Le k.Z F H F' H' → Gd k τ' F' H' → Q (.bl z) H') : tChain3 (cR X.K o) (cR X.K p) (cR X.K r) ta tb tc td σ H Q := by
  rw [ev] at e
  obtain ⟨⟨x, τ1⟩, e1, e⟩ := bind2 e
  obtain ⟨⟨y, τ2⟩, e2, e⟩ := bind2 e
  obtain ⟨z, e3, e⟩ := bind2 e
  refine two ba bb ok gd e1 e2 fun v w F' H' l g' rv rw' => cop_ok (k := k) e3 rv rw' ⟨z, rfl, ?_⟩
  cases z with
  | true =>
    rw [if_pos rfl] at e ⊢
    obtain ⟨⟨u, τ3⟩, e4, e⟩ := bind2 e
    obtain ⟨z2, e5, e⟩ := bind2 e
    refine bc H0 ρ τ2 σ F' H' u _ _ (ok.le gd l) g' e4 fun x3 F3 H3 l3 g3 r3 => ?_
    refine cop_ok (k := k) e5 (rw'.le g' l3) r3 ⟨z2, rfl, ?_⟩
    cases z2 with
    | true =>
      rw [if_pos rfl] at e ⊢
      obtain ⟨⟨u4, τ4⟩, e6, e⟩ := bind2 e
      obtain ⟨d', e7, e8⟩ := Option.map_eq_some_iff.mp e
      cases e8
      refine bd H0 ρ τ3 σ F3 H3 u4 _ _ ((ok.le gd l).le g' l3) g3 e6 fun x4 F4 H4 l4 g4 r4 => ?_
      exact cop_ok (k := k) e7 (r3.le g3 l4) r4 (q _ F4 H4 rfl ((l.trans l3).trans l4) g4)
    | false =>
      rw [if_neg Bool.false_ne_true] at e ⊢
      cases e
      exact q _ F3 H3 rfl (l.trans l3) g3
  | false =>
    rw [if_neg Bool.false_ne_true] at e ⊢
    cases e
    exact q _ F' H' rfl l g'
theorem se_ch3 {o p r : COp} {ea eb ec ed : Expr} {pos : Pos} {a b c d : E} (hu : X.A.units + 65 < cLine) (hm : behindInMarks (cOp r) ed = false) (ha : SE k g X ea a) (hb : SE k g X eb b) (hc : SE k g X ec c) (hd : SE k g X ed d) : SE k g X (.Compare ea [cOp o, cOp p, cOp r] [eb, ec, ed] pos) (.ch3 o p r a b c d) := by
  obtain ⟨ta, pa, _, ba, _⟩ := ha.ex
  obtain ⟨tb, pb, _, bb, _⟩ := hb.ex
  obtain ⟨tc, pc, _, bc, _⟩ := hc.ex
  obtain ⟨td, pd, _, bd, _⟩ := hd.ex
  refine .ofX (pe_chain3 (op_cR hu o) (op_cR hu p) (op_cR hu r) pa pb pc pd (marks3 hm)) (fun H0 ρ τ σ F H d τ' Q ok gd e q => ?_) rfl
  exact chain3_ok ba bb bc bd ok gd e fun z F' H' ez l g' => q _ F' H' l g' (by rw [ez]; exact .bl z)
theorem st_ch3 {o p r : COp} {ea eb ec ed : Expr} {pos : Pos} {a b c d : E} (hu : X.A.units + 65 < cLine) (hm : behindInMarks (cOp r) ed = false) (ha : SE k g X ea a) (hb : SE k g X eb b) (hc : SE k g X ec c) (hd : SE k g X ed d) : ST k g X (.Compare ea [cOp o, cOp p, cOp r] [eb, ec, ed] pos) (.ch3 o p r a b c d) := by
  obtain ⟨ta, pa, _, ba, _⟩ := ha.ex
  obtain ⟨tb, pb, _, bb, _⟩ := hb.ex
  obtain ⟨tc, pc, _, bc, _⟩ := hc.ex
  obtain ⟨td, pd, _, bd, _⟩ := hd.ex
  refine ⟨_, pt_chain3 (op_cR hu o) (op_cR hu p) (op_cR hu r) pa pb pc pd (marks3 hm), fun H0 ρ τ σ F H z τ' Q ok gd e q => ?_⟩
  unfold evT at e
  obtain ⟨⟨d, τ3⟩, e0, et⟩ := bind2 e
  refine chain3_ok ba bb bc bd ok gd e0 fun z' F' H' ez l g' => ?_
  subst ez
  cases et
  exact ⟨_, rfl, q F' H' l g'⟩

/-! ### truth -/
theorem tru_rb {v : V} {d : PD} {b : Bool} {F : Fz} {H : Hp} (h : Rb X.K k.Z k.tv F H v d) (e : truth d = some b) : TruV X.K v H b := by
  cases d with
  | none => cases h.none; cases e; rfl
  | bool c => cases h.bool; cases e; rfl
  | int i => cases h.int; cases e; rfl
  | str s =>
    cases h.str
    rw [truth] at e
    split at e
    · rename_i hz
      cases e
      refine ⟨hz, ?_⟩
      by_cases c : s.length = 0
      · rw [c]; rfl
      · have c2 : (s.length : Int) ≠ 0 := by omega
        rw [bne_iff_ne.mpr c, bne_iff_ne.mpr c2]
    · cases e
  | list ds =>
    obtain ⟨a, xs, rfl, h1, r⟩ := h.list
    cases e
    refine .inl ⟨xs, h1, ?_⟩
    cases r <;> rfl
  | tuple ds =>
    obtain ⟨a, xs, rfl, h1, r⟩ := h.tuple
    cases e
    refine .inr (.inl ⟨xs, h1, ?_⟩)
    cases r <;> rfl
  | dict kvs => cases e
/-- a plain test: by its value's truth -/
theorem st_plain {e : Expr} {m : E} (h : SE k g X e m) (he : ∀ whole, isTrue e X.env whole = (do let v ← whole; standAt e.pos; holding [v] (truthy v))) : ST k g X e m := by
  obtain ⟨t, p, _, b, _⟩ := h.ex
  refine ⟨_, pt_truth p he, fun H0 ρ τ σ F H z τ' Q ok gd e q => ?_⟩
  unfold evT at e
  obtain ⟨⟨d, τ3⟩, e0, et⟩ := bind2 e
  obtain ⟨b', e1, e2⟩ := Option.map_eq_some_iff.mp et
  cases e2
  exact b H0 ρ τ σ F H d τ3 _ ok gd e0 fun v F' H' l g' r => ⟨_, tru_rb r e1, q F' H' l g'⟩
theorem se_nt {e : Expr} {pos : Pos} {m : E} (h : SE k g X e m) : SE k g X (.UnaryOp .Not e pos) (.nt m) := by
  obtain ⟨t, p, _, b, _⟩ := h.ex
  refine .ofX (pe_notT p) (fun H0 ρ τ σ F H z τ' Q ok gd e q => ?_) rfl
  rw [ev] at e
  obtain ⟨⟨d, τ3⟩, e0, et⟩ := bind2 e
  obtain ⟨b', e1, e2⟩ := Option.map_eq_some_iff.mp et
  cases e2
  exact b H0 ρ τ σ F H d τ3 _ ok gd e0 fun v F' H' l g' r => ⟨_, tru_rb r e1, q _ F' H' l g' (.bl _)⟩
theorem st_nt {e : Expr} {pos : Pos} {m : E} (h : ST k g X e m) : ST k g X (.UnaryOp .Not e pos) (.nt m) := by
  obtain ⟨t, p, r⟩ := h.ex
  refine ⟨_, pt_not p, fun H0 ρ τ σ F H z τ' Q ok gd e q => ?_⟩
  unfold evT at e
  rw [ev] at e
  obtain ⟨⟨d, τ3⟩, e0, et⟩ := bind2 e
  obtain ⟨⟨d2, τ4⟩, e1, et1⟩ := bind2 e0
  obtain ⟨b', e2, e3⟩ := Option.map_eq_some_iff.mp et1
  cases e3
  cases et
  exact r H0 ρ τ σ F H b' _ _ ok gd (by unfold evT; rw [e1]; show Option.map _ _ = _; rw [e2]; rfl) fun F' H' l g' => q F' H' l g'
/-- a test by its value, which is a truth value -/
theorem st_val {e : Expr} {m : E} {t : TE} (p : PT X e fun σ H Q => t σ H fun x H' => ∃ c, x = .bl c ∧ Q c H') (h : RX k g X t m) (hv : ∀ ρ τ d τ', ev g m ρ τ = some (d, τ') → ∃ b, d = .bool b) : ST k g X e m := by
  refine ⟨_, p, fun H0 ρ τ σ F H z τ' Q ok gd e q => ?_⟩
  unfold evT at e
  obtain ⟨⟨d, τ3⟩, e0, et⟩ := bind2 e
  obtain ⟨b, rfl⟩ := hv _ _ _ _ e0
  cases et
  exact h H0 ρ τ σ F H _ _ _ ok gd e0 fun v F' H' l g' rv => by
    cases rv
    exact ⟨_, rfl, q F' H' l g'⟩
theorem ev_isN {n : Bool} {m : E} (ρ : Ev) (τ : T) (d : PD) (τ' : T) (e : ev g (.isN n m) ρ τ = some (d, τ')) : ∃ b, d = .bool b := by
  rw [ev] at e
  obtain ⟨⟨x, τ3⟩, e0, et⟩ := bind2 e
  cases x <;> first | (cases et; exact ⟨_, rfl⟩) | cases et
theorem ev_isB {n b0 : Bool} {m : E} (ρ : Ev) (τ : T) (d : PD) (τ' : T) (e : ev g (.isB n b0 m) ρ τ = some (d, τ')) : ∃ b, d = .bool b := by
  rw [ev] at e
  obtain ⟨⟨x, τ3⟩, e0, et⟩ := bind2 e
  cases x <;> first | (cases et; exact ⟨_, rfl⟩) | cases et
theorem rx_isN {t : TE} {m : E} (b : RB k g X t m) : RX k g X (tIsN t) (.isN false m) := fun H0 ρ τ σ F H z τ' Q ok gd e q => by
  rw [ev] at e
  obtain ⟨⟨d, τ3⟩, e0, et⟩ := bind2 e
  refine b H0 ρ τ σ F H d τ3 _ ok gd e0 fun v F' H' l g' r => ?_
  cases d with
  | none => cases r.none; cases et; exact q _ F' H' l g' (.bl _)
  | bool c => cases r.bool; cases et; exact q _ F' H' l g' (.bl _)
  | int i => cases r.int; cases et; exact q _ F' H' l g' (.bl _)
  | str i => cases r.str; cases et; exact q _ F' H' l g' (.bl _)
  | list ds => obtain ⟨a, xs, rfl, _⟩ := r.list; cases et; exact q _ F' H' l g' (.bl _)
  | tuple ds => obtain ⟨a, xs, rfl, _⟩ := r.tuple; cases et; exact q _ F' H' l g' (.bl _)
  | dict kvs => cases et
theorem se_isN {e : Expr} {pos p : Pos} {j : Nat} {m : E} (h : SE k g X e m) : SE k g X (.Compare e [.Is] [.Constant .none j p] pos) (.isN false m) := by
  obtain ⟨t, pe, _, b, _⟩ := h.ex
  exact .ofX (pe_cmp (pc_isN pe) rfl) (rx_isN b) rfl
theorem st_isN {e : Expr} {pos p : Pos} {j : Nat} {m : E} (h : SE k g X e m) : ST k g X (.Compare e [.Is] [.Constant .none j p] pos) (.isN false m) := by
  obtain ⟨t, pe, _, b, _⟩ := h.ex
  exact st_val (pt_cmp (pc_isN pe) rfl) (rx_isN b) (ev_isN)
theorem rx_notN {t : TE} {m : E} (b : RB k g X t m) : RX k g X (tNotN t) (.isN true m) := fun H0 ρ τ σ F H z τ' Q ok gd e q => by
  rw [ev] at e
  obtain ⟨⟨d, τ3⟩, e0, et⟩ := bind2 e
  refine b H0 ρ τ σ F H d τ3 _ ok gd e0 fun v F' H' l g' r => ?_
  cases d with
  | none => cases r.none; cases et; exact q _ F' H' l g' (.bl _)
  | bool c => cases r.bool; cases et; exact q _ F' H' l g' (.bl _)
  | int i => cases r.int; cases et; exact q _ F' H' l g' (.bl _)
  | str i => cases r.str; cases et; exact q _ F' H' l g' (.bl _)
  | list ds => obtain ⟨a, xs, rfl, _⟩ := r.list; cases et; exact q _ F' H' l g' (.bl _)
  | tuple ds => obtain ⟨a, xs, rfl, _⟩ := r.tuple; cases et; exact q _ F' H' l g' (.bl _)
  | dict kvs => cases et
theorem se_notN {e : Expr} {pos p : Pos} {j : Nat} {m : E} (h : SE k g X e m) : SE k g X (.Compare e [.IsNot] [.Constant .none j p] pos) (.isN true m) := by
  obtain ⟨t, pe, _, b, _⟩ := h.ex
  exact .ofX (pe_cmp (pc_notN pe) rfl) (rx_notN b) rfl
theorem st_notN {e : Expr} {pos p : Pos} {j : Nat} {m : E} (h : SE k g X e m) : ST k g X (.Compare e [.IsNot] [.Constant .none j p] pos) (.isN true m) := by
  obtain ⟨t, pe, _, b, _⟩ := h.ex
  exact st_val (pt_cmp (pc_notN pe) rfl) (rx_notN b) (ev_isN)
theorem beq_dec (a b : Bool) : decide (a = b) = (a == b) := by cases a <;> cases b <;> rfl
theorem rx_isB {b0 : Bool} {t : TE} {m : E} (b : RB k g X t m) : RX k g X (tOp rIsB t (tC (.bl b0))) (.isB false b0 m) := fun H0 ρ τ σ F H z τ' Q ok gd e q => by
  rw [ev] at e
  obtain ⟨⟨d, τ3⟩, e0, et⟩ := bind2 e
  refine b H0 ρ τ σ F H d τ3 _ ok gd e0 fun v F' H' l g' r => ?_
  cases d with
  | bool c =>
    cases r.bool
    cases et
    refine ⟨c, b0, rfl, rfl, ?_⟩
    have e : decide (c = b0) = ((c == b0) != false) := by cases c <;> cases b0 <;> rfl
    rw [e]
    exact q _ F' H' l g' (.bl _)
  | _ => cases et
theorem se_isB {e : Expr} {pos p : Pos} {j : Nat} {b0 : Bool} {m : E} (h : SE k g X e m) : SE k g X (.Compare e [.Is] [.Constant (.bool b0) j p] pos) (.isB false b0 m) := by
  obtain ⟨t, pe, _, b, _⟩ := h.ex
  exact .ofX (pe_cmpR op_isBl pe pe_bl rfl) (rx_isB b) rfl
theorem st_isB {e : Expr} {pos p : Pos} {j : Nat} {b0 : Bool} {m : E} (h : SE k g X e m) : ST k g X (.Compare e [.Is] [.Constant (.bool b0) j p] pos) (.isB false b0 m) := by
  obtain ⟨t, pe, _, b, _⟩ := h.ex
  exact st_val (pt_cmpR op_isBl pe pe_bl rfl) (rx_isB b) (ev_isB)
theorem rx_notB {b0 : Bool} {t : TE} {m : E} (b : RB k g X t m) : RX k g X (tOp rNotB t (tC (.bl b0))) (.isB true b0 m) := fun H0 ρ τ σ F H z τ' Q ok gd e q => by
  rw [ev] at e
  obtain ⟨⟨d, τ3⟩, e0, et⟩ := bind2 e
  refine b H0 ρ τ σ F H d τ3 _ ok gd e0 fun v F' H' l g' r => ?_
  cases d with
  | bool c =>
    cases r.bool
    cases et
    refine ⟨c, b0, rfl, rfl, ?_⟩
    have e : (!decide (c = b0)) = ((c == b0) != true) := by cases c <;> cases b0 <;> rfl
    rw [e]
    exact q _ F' H' l g' (.bl _)
  | _ => cases et
theorem se_notB {e : Expr} {pos p : Pos} {j : Nat} {b0 : Bool} {m : E} (h : SE k g X e m) : SE k g X (.Compare e [.IsNot] [.Constant (.bool b0) j p] pos) (.isB true b0 m) := by
  obtain ⟨t, pe, _, b, _⟩ := h.ex
  exact .ofX (pe_cmpR op_notBl pe pe_bl rfl) (rx_notB b) rfl
theorem st_notB {e : Expr} {pos p : Pos} {j : Nat} {b0 : Bool} {m : E} (h : SE k g X e m) : ST k g X (.Compare e [.IsNot] [.Constant (.bool b0) j p] pos) (.isB true b0 m) := by
  obtain ⟨t, pe, _, b, _⟩ := h.ex
  exact st_val (pt_cmpR op_notBl pe pe_bl rfl) (rx_notB b) (ev_isB)
end
end Fh
namespace Fh
open PySem L2 PyProof.Rows

/-! ### no star -/
def nst : Expr → Bool
  | .Starred _ _ => false
  | _ => true
theorem star_cons {e : Expr} {es : List Expr} {env : Env} (h : nst e = true) : starEach (e :: es) env = (false, eval e env) :: starEach es env := by
  cases e <;> first | rfl | cases h
theorem star_any {pos : Pos} {env : Env} : ∀ {es : List Expr}, es.all nst = true → (backTo pos (starEach es env)).any (·.1) = false
  | [], _ => rfl
  | e :: es, h => by
    rw [List.all_cons, Bool.and_eq_true] at h
    rw [star_cons h.1]
    show (false || (backTo pos (starEach es env)).any (·.1)) = false
    rw [star_any h.2]
    rfl
theorem star_all {pos : Pos} {env : Env} : ∀ {es : List Expr}, es.all nst = true → ((backTo pos (starEach es env)).all fun x => !x.1) = true
  | [], _ => rfl
  | e :: es, h => by
    rw [List.all_cons, Bool.and_eq_true] at h
    rw [star_cons h.1]
    show (true && ((backTo pos (starEach es env)).all fun x => !x.1)) = true
    rw [star_all h.2]
    rfl

section
variable {T : Type} {k : Tk T} {g : Glob T} {X : Cx}
/-! ### arguments -/
theorem sa_nil : SA k g X [] .nil :=
  ⟨_, pa_nil, fun H0 ρ τ σ F H ds τ' Q ok gd e q => by
    rw [evs] at e; cases e
    exact q [] F H (.refl _ _ _) gd .nil, fun _ H0 ρ τ σ F H ds τ' Q ok gd e q => by
    rw [evs] at e; cases e
    exact q [] F H (.refl _ _ _) gd .nil⟩
theorem sa_cons {e : Expr} {es : List Expr} {m : E} {ms : Es} (hn : nst e = true) (h : SE k g X e m) (hs : SA k g X es ms) : SA k g X (e :: es) (.cons m ms) := by
  obtain ⟨t, p, x, b, _⟩ := h.ex
  obtain ⟨ts, ps, bs, xs⟩ := hs.ex
  refine ⟨_, pa_cons p ps (star_cons hn), fun H0 ρ τ σ F H ds τ' Q ok gd e q => ?_, fun z H0 ρ τ σ F H ds τ' Q ok gd e q => ?_⟩
  · rw [evs] at e
    obtain ⟨⟨d, τ1⟩, e1, e⟩ := bind2 e
    obtain ⟨⟨ds', τ2⟩, e2, e3⟩ := Option.map_eq_some_iff.mp e
    cases e3
    refine b H0 ρ τ σ F H d τ1 _ ok gd e1 fun v F1 H1 l1 g1 r1 => ?_
    refine bs H0 ρ τ1 σ F1 H1 ds' τ2 _ (ok.le gd l1) g1 e2 fun vs F2 H2 l2 g2 r2 => ?_
    exact q (v :: vs) F2 H2 (l1.trans l2) g2 (.cons (r1.le g1 l2) r2)
  · rw [Es.noPk, Bool.and_eq_true] at z
    rw [evs] at e
    obtain ⟨⟨d, τ1⟩, e1, e⟩ := bind2 e
    obtain ⟨⟨ds', τ2⟩, e2, e3⟩ := Option.map_eq_some_iff.mp e
    cases e3
    refine x (by simpa using z.1) H0 ρ τ σ F H d τ1 _ ok gd e1 fun v F1 H1 l1 g1 r1 => ?_
    refine xs z.2 H0 ρ τ1 σ F1 H1 ds' τ2 _ (ok.le gd l1) g1 e2 fun vs F2 H2 l2 g2 r2 => ?_
    exact q (v :: vs) F2 H2 (l1.trans l2) g2 (.cons (r1.lw (l2.lw g1)) r2)
theorem se_tup {es : List Expr} {n : Nat} {pos : Pos} {ms : Es} (h : SA k g X es ms) (hp : ms.noPk = true) : SE k g X (.Tuple es n pos) (.tup ms) := by
  obtain ⟨t, p, _, x⟩ := h.ex
  refine .ofX (pe_tup p) (fun H0 ρ τ σ F H d τ' Q ok gd e q => ?_) rfl
  rw [ev] at e
  obtain ⟨⟨ds, τ1⟩, e1, e⟩ := bind2 e
  split at e
  · rename_i hz
    cases e
    refine x hp H0 ρ τ σ F H ds _ _ ok gd e1 fun vs F1 H1 l1 g1 r1 => ⟨by rw [r1.length]; exact okLen_le hz, fun a ha => ?_⟩
    exact q _ F1 _ (le_new l1 ha) (gd_new g1 ha) (rp_tup g1 ha r1)
  · cases e
theorem se_lst {es : List Expr} {pos : Pos} {ms : Es} (h : SA k g X es ms) (hp : ms.noPk = true) : SE k g X (.List es pos) (.lst ms) := by
  obtain ⟨t, p, _, x⟩ := h.ex
  refine .ofF (pe_lst p) fun H0 ρ τ σ F H d τ' Q ok gd e q => ?_
  rw [ev] at e
  obtain ⟨⟨ds, τ1⟩, e1, e⟩ := bind2 e
  split at e
  · rename_i hz
    cases e
    refine x hp H0 ρ τ σ F H ds _ _ ok gd e1 fun vs F1 H1 l1 g1 r1 => ⟨by rw [r1.length]; exact okLen_le hz, fun a ha => ?_⟩
    exact q _ F1 _ (le_new l1 ha) (gd_new g1 ha) (frv_new l1 g1 ha r1)
  · cases e

/-! ### and, or, if else -/
theorem se_and1 {e : Expr} {pos : Pos} {m : E} (h : SE k g X e m) (hp : m.isPk = false) : SE k g X (.BoolOp .And [e] pos) (.ands (.cons m .nil)) := by
  obtain ⟨t, p, x, _, _⟩ := h.ex
  refine .ofX (pe_one p) (fun H0 ρ τ σ F H d τ' Q ok gd e q => ?_) rfl
  rw [ev, evAnd] at e
  obtain ⟨⟨d', τ1⟩, e1, e⟩ := bind2 e
  cases e
  exact x hp H0 ρ τ σ F H _ _ _ ok gd e1 q
theorem se_or1 {e : Expr} {pos : Pos} {m : E} (h : SE k g X e m) (hp : m.isPk = false) : SE k g X (.BoolOp .Or [e] pos) (.ors (.cons m .nil)) := by
  obtain ⟨t, p, x, _, _⟩ := h.ex
  refine .ofX (pe_one p) (fun H0 ρ τ σ F H d τ' Q ok gd e q => ?_) rfl
  rw [ev, evOr] at e
  obtain ⟨⟨d', τ1⟩, e1, e⟩ := bind2 e
  cases e
  exact x hp H0 ρ τ σ F H _ _ _ ok gd e1 q
theorem se_ands {a b : Expr} {rest : List Expr} {pos : Pos} {m n : E} {ms : Es} (h : SE k g X a m) (hp : m.isPk = false) (hs : SE k g X (.BoolOp .And (b :: rest) pos) (.ands (.cons n ms))) : SE k g X (.BoolOp .And (a :: b :: rest) pos) (.ands (.cons m (.cons n ms))) := by
  obtain ⟨t, p, x, _, _⟩ := h.ex
  obtain ⟨t2, p2, x2, _, _⟩ := hs.ex
  refine .ofX (pe_andT p p2) (fun H0 ρ τ σ F H d τ' Q ok gd e q => ?_) rfl
  rw [ev, evAnd] at e
  obtain ⟨⟨d1, τ1⟩, e1, e⟩ := bind2 e
  obtain ⟨b1, e2, e⟩ := bind2 e
  refine x hp H0 ρ τ σ F H _ _ _ ok gd e1 fun v F1 H1 l1 g1 r1 => ⟨b1, tru_rb (k := k) (.of r1) e2, ?_⟩
  cases b1 with
  | true =>
    rw [if_pos rfl] at e ⊢
    exact x2 rfl H0 ρ τ1 σ F1 H1 _ _ _ (ok.le gd l1) g1 (by rw [ev]; exact e) fun w F2 H2 l2 g2 r2 => q w F2 H2 (l1.trans l2) g2 r2
  | false =>
    rw [if_neg Bool.false_ne_true] at e ⊢
    cases e
    exact q v F1 H1 l1 g1 r1
theorem se_ors {a b : Expr} {rest : List Expr} {pos : Pos} {m n : E} {ms : Es} (h : SE k g X a m) (hp : m.isPk = false) (hs : SE k g X (.BoolOp .Or (b :: rest) pos) (.ors (.cons n ms))) : SE k g X (.BoolOp .Or (a :: b :: rest) pos) (.ors (.cons m (.cons n ms))) := by
  obtain ⟨t, p, x, _, _⟩ := h.ex
  obtain ⟨t2, p2, x2, _, _⟩ := hs.ex
  refine .ofX (pe_orT p p2) (fun H0 ρ τ σ F H d τ' Q ok gd e q => ?_) rfl
  rw [ev, evOr] at e
  obtain ⟨⟨d1, τ1⟩, e1, e⟩ := bind2 e
  obtain ⟨b1, e2, e⟩ := bind2 e
  refine x hp H0 ρ τ σ F H _ _ _ ok gd e1 fun v F1 H1 l1 g1 r1 => ⟨b1, tru_rb (k := k) (.of r1) e2, ?_⟩
  cases b1 with
  | true =>
    rw [if_pos rfl] at e ⊢
    cases e
    exact q v F1 H1 l1 g1 r1
  | false =>
    rw [if_neg Bool.false_ne_true] at e ⊢
    exact x2 rfl H0 ρ τ1 σ F1 H1 _ _ _ (ok.le gd l1) g1 (by rw [ev]; exact e) fun w F2 H2 l2 g2 r2 => q w F2 H2 (l1.trans l2) g2 r2
/-- and, or as tests -/
structure SW (es : List Expr) (op : BoolOp) (ms : Es) : Prop where
  ex : ∀ pos, ∃ t, PW X (.BoolOp op es pos) t ∧ RT k g X t (match op with | .And => .ands ms | .Or => .ors ms)
theorem sw_and1 {e : Expr} {m : E} (h : ST k g X e m) : SW (k := k) (g := g) (X := X) [e] .And (.cons m .nil) := ⟨fun pos => by
  obtain ⟨t, p, r⟩ := h.ex
  refine ⟨t, pw_and1 p, fun H0 ρ τ σ F H z τ' Q ok gd e q => ?_⟩
  refine r H0 ρ τ σ F H z τ' Q ok gd ?_ q
  unfold evT at e ⊢
  simp only at e
  rw [ev, evAnd] at e
  rw [← e]
  cases ev g m ρ τ <;> rfl⟩
theorem sw_or1 {e : Expr} {m : E} (h : ST k g X e m) : SW (k := k) (g := g) (X := X) [e] .Or (.cons m .nil) := ⟨fun pos => by
  obtain ⟨t, p, r⟩ := h.ex
  refine ⟨t, pw_or1 p, fun H0 ρ τ σ F H z τ' Q ok gd e q => ?_⟩
  refine r H0 ρ τ σ F H z τ' Q ok gd ?_ q
  unfold evT at e ⊢
  simp only at e
  rw [ev, evOr] at e
  rw [← e]
  cases ev g m ρ τ <;> rfl⟩
theorem sw_and {a b : Expr} {rest : List Expr} {m n : E} {ms : Es} (h : ST k g X a m) (hs : SW (k := k) (g := g) (X := X) (b :: rest) .And (.cons n ms)) : SW (k := k) (g := g) (X := X) (a :: b :: rest) .And (.cons m (.cons n ms)) := ⟨fun pos => by
  obtain ⟨t, p, r⟩ := h.ex
  obtain ⟨t2, p2, r2⟩ := hs.ex pos
  refine ⟨_, pw_and p p2, fun H0 ρ τ σ F H z τ' Q ok gd e q => ?_⟩
  unfold evT at e
  simp only at e
  rw [ev, evAnd] at e
  obtain ⟨⟨d, τ1⟩, e0, et⟩ := bind2 e
  obtain ⟨⟨d1, τ2⟩, e1, e⟩ := bind2 e0
  obtain ⟨b1, e2, e⟩ := bind2 e
  refine r H0 ρ τ σ F H b1 τ2 _ ok gd (by unfold evT; rw [e1]; show Option.map _ _ = _; rw [e2]; rfl) fun F1 H1 l1 g1 => ?_
  cases b1 with
  | true =>
    rw [if_pos rfl] at e ⊢
    refine r2 H0 ρ τ2 σ F1 H1 z τ' _ (ok.le gd l1) g1 ?_ fun F2 H2 l2 g2 => q F2 H2 (l1.trans l2) g2
    unfold evT
    simp only
    rw [ev, e]
    exact et
  | false =>
    rw [if_neg Bool.false_ne_true] at e ⊢
    cases e
    change (truth _).map _ = _ at et
    rw [e2] at et
    cases et
    exact q F1 H1 l1 g1⟩
theorem sw_or {a b : Expr} {rest : List Expr} {m n : E} {ms : Es} (h : ST k g X a m) (hs : SW (k := k) (g := g) (X := X) (b :: rest) .Or (.cons n ms)) : SW (k := k) (g := g) (X := X) (a :: b :: rest) .Or (.cons m (.cons n ms)) := ⟨fun pos => by
  obtain ⟨t, p, r⟩ := h.ex
  obtain ⟨t2, p2, r2⟩ := hs.ex pos
  refine ⟨_, pw_or p p2, fun H0 ρ τ σ F H z τ' Q ok gd e q => ?_⟩
  unfold evT at e
  simp only at e
  rw [ev, evOr] at e
  obtain ⟨⟨d, τ1⟩, e0, et⟩ := bind2 e
  obtain ⟨⟨d1, τ2⟩, e1, e⟩ := bind2 e0
  obtain ⟨b1, e2, e⟩ := bind2 e
  refine r H0 ρ τ σ F H b1 τ2 _ ok gd (by unfold evT; rw [e1]; show Option.map _ _ = _; rw [e2]; rfl) fun F1 H1 l1 g1 => ?_
  cases b1 with
  | true =>
    rw [if_pos rfl] at e ⊢
    cases e
    change (truth _).map _ = _ at et
    rw [e2] at et
    cases et
    exact q F1 H1 l1 g1
  | false =>
    rw [if_neg Bool.false_ne_true] at e ⊢
    refine r2 H0 ρ τ2 σ F1 H1 z τ' _ (ok.le gd l1) g1 ?_ fun F2 H2 l2 g2 => q F2 H2 (l1.trans l2) g2
    unfold evT
    simp only
    rw [ev, e]
    exact et⟩
theorem st_ands {es : List Expr} {pos : Pos} {ms : Es} (h : SW (k := k) (g := g) (X := X) es .And ms) : ST k g X (.BoolOp .And es pos) (.ands ms) := by
  obtain ⟨t, p, r⟩ := h.ex pos
  exact ⟨t, p.pt, r⟩
theorem st_ors {es : List Expr} {pos : Pos} {ms : Es} (h : SW (k := k) (g := g) (X := X) es .Or ms) : ST k g X (.BoolOp .Or es pos) (.ors ms) := by
  obtain ⟨t, p, r⟩ := h.ex pos
  exact ⟨t, p.pt, r⟩
theorem se_ite {t0 a0 b0 : Expr} {pos : Pos} {t a b : E} (ht : ST k g X t0 t) (ha : SE k g X a0 a) (hb : SE k g X b0 b) (pa : a.isPk = false) (pb : b.isPk = false) : SE k g X (.IfExp t0 a0 b0 pos) (.ite t a b) := by
  obtain ⟨tt, pt, rt⟩ := ht.ex
  obtain ⟨ta, pea, xa, _, _⟩ := ha.ex
  obtain ⟨tb, peb, xb, _, _⟩ := hb.ex
  refine .ofX (pe_ifExp pt pea peb) (fun H0 ρ τ σ F H d τ' Q ok gd e q => ?_) rfl
  rw [ev] at e
  obtain ⟨⟨d1, τ1⟩, e1, e⟩ := bind2 e
  obtain ⟨b1, e2, e⟩ := bind2 e
  refine rt H0 ρ τ σ F H b1 τ1 _ ok gd (by unfold evT; rw [e1]; show Option.map _ _ = _; rw [e2]; rfl) fun F1 H1 l1 g1 => ?_
  cases b1 with
  | true =>
    rw [if_pos rfl] at e ⊢
    exact xa pa H0 ρ τ1 σ F1 H1 _ _ _ (ok.le gd l1) g1 e fun w F2 H2 l2 g2 r2 => q w F2 H2 (l1.trans l2) g2 r2
  | false =>
    rw [if_neg Bool.false_ne_true] at e ⊢
    exact xb pb H0 ρ τ1 σ F1 H1 _ _ _ (ok.le gd l1) g1 e fun w F2 H2 l2 g2 r2 => q w F2 H2 (l1.trans l2) g2 r2

/-! ### subscripts, slices -/
theorem atI_rpa {F : Fz} {H : Hp} {xs : List V} {ds : List PD} {i : Int} {d : PD} (r : RpA X.K k.tv F H xs ds) (h : atI ds i = some d) : ∃ v, atI xs i = some v ∧ Rp X.K k.tv F H v d := by
  unfold atI at h ⊢
  rw [r.length]
  cases e : ixN ds.length i with
  | none => rw [e] at h; cases h
  | some j =>
    rw [e] at h
    exact r.get h
theorem se_ix {a0 i0 : Expr} {pos : Pos} {a i : E} (hs : PlainIx i0) (ha : SE k g X a0 a) (hi : SE k g X i0 i) : SE k g X (.Subscript a0 i0 pos) (.ix a i) := by
  obtain ⟨ta, pa, _, ba, _⟩ := ha.ex
  obtain ⟨ti, pi, _, bi, _⟩ := hi.ex
  refine .ofX (pe_ix ix_seq pa pi hs) (fun H0 ρ τ σ F H d τ' Q ok gd e q => ?_) rfl
  rw [ev] at e
  obtain ⟨⟨x, τ1⟩, e1, e⟩ := bind2 e
  obtain ⟨⟨y, τ2⟩, e2, e⟩ := bind2 e
  obtain ⟨d', e3, e4⟩ := Option.map_eq_some_iff.mp e
  cases e4
  refine two ba bi ok gd e1 e2 fun v w F' H' l g' rv rw' => ?_
  simp only at e3
  unfold pix at e3
  split at e3
  · obtain ⟨a1, xs, rfl, h1, r1⟩ := rv.list
    cases rw'.int
    obtain ⟨u, hu, ru⟩ := atI_rpa r1 e3
    exact .inl ⟨a1, xs, _, u, rfl, rfl, h1, hu, q u F' H' l g' ru⟩
  · obtain ⟨a1, xs, rfl, h1, r1⟩ := rv.tuple
    cases rw'.int
    obtain ⟨u, hu, ru⟩ := atI_rpa r1 e3
    exact .inr (.inl ⟨a1, xs, _, u, rfl, rfl, h1, hu, q u F' H' l g' ru⟩)
  · split at e3
    · rename_i hz
      obtain ⟨c, hc, e5⟩ := Option.map_eq_some_iff.mp e3
      cases e5
      cases rv.str
      cases rw'.int
      exact .inr (.inr ⟨_, _, c, rfl, rfl, okLen_le hz, hc, q _ F' H' l g' (.str _)⟩)
    · cases e3
  · cases e3
/-- a slice's part: an expression, or left out -/
structure SO (e : Option Expr) (m : E) : Prop where
  ex : ∃ t, PO X e t ∧ ∀ (H0 : Hp) (ρ : Ev) (τ : T) (σ : Sg) (F : Fz) (H : Hp) (d : PD) (τ' : T) (p : Option Int) (Q : Option Int → Hp → Prop), Okk k X.K H0 ρ σ F H → Gd k τ F H → ev g m ρ τ = some (d, τ') → partOf m d = some p →
    (∀ F' H', Le k.Z F H F' H' → Gd k τ' F' H' → Q p H') → t σ H Q
theorem so_none : SO (k := k) (g := g) (X := X) none .non := ⟨_, po_none, fun H0 ρ τ σ F H d τ' p Q ok gd e ep q => by
  rw [ev] at e
  cases e
  cases ep
  exact q F H (.refl _ _ _) gd⟩
theorem so_some {e : Expr} {m : E} (hm : m ≠ .non) (h : SE k g X e m) : SO (k := k) (g := g) (X := X) (some e) m := by
  obtain ⟨t, p, _, b, _⟩ := h.ex
  refine ⟨_, po_some p, fun H0 ρ τ σ F H d τ' p Q ok gd e ep q => ?_⟩
  refine b H0 ρ τ σ F H d τ' _ ok gd e fun v F' H' l g' r => ?_
  unfold partOf at ep
  split at ep
  · exact absurd rfl hm
  · split at ep
    · cases ep
      cases r.int
      exact ⟨_, rfl, q F' H' l g'⟩
    · cases ep
theorem cutV_rpa {F : Fz} {H : Hp} {xs : List V} {ds : List PD} {lo hi : Option Int} (r : RpA X.K k.tv F H xs ds) : RpA X.K k.tv F H (cutV xs lo hi) (cutD ds lo hi) := by
  unfold cutV cutD
  rw [r.length]
  exact (r.drop _).take _
def rSl2 (K : PySem.W.Frag) : V → Option Int → Option Int → Hp → VK → Prop := fun x lo hi H Q => (rSlL K x lo hi H Q ∨ rSlA K x lo hi H Q) ∨ rSlS x lo hi H Q
theorem se_sl {a0 : Expr} {lo0 hi0 : Option Expr} {p2 pos : Pos} {a lo hi : E} (ha : SE k g X a0 a) (hl : SO (k := k) (g := g) (X := X) lo0 lo) (hh : SO (k := k) (g := g) (X := X) hi0 hi) : SE k g X (.Subscript a0 (.Slice lo0 hi0 none p2) pos) (.sl a lo hi) := by
  obtain ⟨ta, pa, _, ba, _⟩ := ha.ex
  obtain ⟨tl, pl, rl⟩ := hl.ex
  obtain ⟨th, ph, rh⟩ := hh.ex
  refine .ofF (pe_slice (r := rSl2 X.K) ((sl_list.or sl_tupA).or sl_str) pa pl ph) fun H0 ρ τ σ F H d τ' Q ok gd e q => ?_
  rw [ev] at e
  obtain ⟨⟨x, τ1⟩, e1, e⟩ := bind2 e
  obtain ⟨⟨y, τ2⟩, e2, e⟩ := bind2 e
  obtain ⟨⟨z, τ3⟩, e3, e⟩ := bind2 e
  obtain ⟨l, e4, e⟩ := bind2 e
  obtain ⟨h, e5, e⟩ := bind2 e
  obtain ⟨d', e6, e7⟩ := Option.map_eq_some_iff.mp e
  cases e7
  refine ba H0 ρ τ σ F H _ _ _ ok gd e1 fun v F1 H1 l1 g1 r1 => ?_
  refine rl H0 ρ τ1 σ F1 H1 _ _ _ _ (ok.le gd l1) g1 e2 e4 fun F2 H2 l2 g2 => ?_
  refine rh H0 ρ τ2 σ F2 H2 _ _ _ _ ((ok.le gd l1).le g1 l2) g2 e3 e5 fun F3 H3 l3 g3 => ?_
  have r3 := (r1.le g1 l2).le g2 l3
  have l13 := (l1.trans l2).trans l3
  simp only at e6
  unfold psl at e6
  split at e6
  · cases e6
    obtain ⟨a1, xs, rfl, h1, rr⟩ := r3.list
    exact .inl <| .inl ⟨a1, xs, rfl, h1, fun p hp => q _ F3 _ (le_new l13 hp) (gd_new g3 hp) (frv_new l13 g3 hp (cutV_rpa rr))⟩
  · cases e6
    cases r3.rpT with | tup h1 rr => ?_
    rename_i a1 xs
    refine .inl <| .inr ⟨a1, xs, rfl, h1.sq, fun hw => ?_, fun _ p hp => q _ F3 _ (le_new l13 hp) (gd_new g3 hp) (rp_tup g3 hp (cutV_rpa rr))⟩
    have ew : cutV xs l h = xs := by
      unfold cutV
      rw [hw.1, hw.2, List.drop_zero, Nat.sub_zero]
      exact List.take_length
    have r4 := cutV_rpa (lo := l) (hi := h) rr
    rw [ew] at r4
    exact q _ F3 H3 l13 g3 (Rp.tup h1 r4)
  · split at e6
    · rename_i hz
      cases e6
      cases r3.str
      exact .inr ⟨_, rfl, okLen_le hz, q _ F3 H3 l13 g3 (Rp.str _)⟩
    · cases e6
  · cases e6
end
end Fh
namespace Fh
open PySem L2 PyProof.Rows

/-- a def's promise by a function on data -/
def spOf {T : Type} (k : Tk T) (K : PySem.W.Frag) (r : List PD → T → Option (PD × T)) (n : Nat) : Sp := fun vs H Q _ =>
  vs.length = n ∧ ∃ F ds τ d τ', RpA K k.tv F H vs ds ∧ Gd k τ F H ∧ r ds τ = some (d, τ') ∧ ∀ v F' H', Le k.Z F H F' H' → Gd k τ' F' H' → Rp K k.tv F' H' v d → Q v H'

/-- the names that a tree speaks of by numbers -/
structure Tb where
  names : List Str
  cns : List Str
  bl : List Str
  mf : List (Str × String)
  dcs : List Str := []
  gx : Bool := false
  rp : Bool := false
  kl : Nat := 16777217
/-- what a body's context must bear -/
structure GOk {T : Type} (k : Tk T) (g : Glob T) (tb : Tb) (lv : Nat) (X : Cx) : Prop where
  calm : X.calm = true
  nd : X.N.Nodup
  room : Room lv X.A
  defs : ∀ (j : Nat) (x : Str), tb.names[j]? = some x → ∃ f fd ps, X.mg x = some (.ref f) ∧ PySem.W.keepIn X.K (.ref f) = true ∧ Binds X.K fd ps [] ∧ FnOk X.prog X.w X.K X.mg X.base CX0 lv f fd ps (spOf k X.K (g.call j) ps.length) ∧ ∀ ds τ r, g.call j ds τ = some r → ds.length = ps.length
  cons : ∀ (c : Nat) (x : Str), tb.cns[c]? = some x → ∃ u v d, X.mg x = some u ∧ RelV v u ∧ g.con c = some d ∧ ∀ F H, Rp X.K k.tv F H v d
  blt : ∀ x ∈ tb.bl, X.mg x = none
  mf : ∀ p ∈ tb.mf, X.mg p.1 = some (.builtin p.2)
  dct : ∀ (c : Nat) (x : Str), tb.dcs[c]? = some x → ∃ a, X.mg x = some (.ref a) ∧ ∀ z d, g.dct c z = some d → ∃ v, KDct X.K X.w a z v ∧ ∀ F H, Rp X.K k.tv F H v d
  gxs : tb.gx = true → ∃ c P, k.tab P ∧ X.env.code = .ref c ∧ GxR.TabB X.base X.mg c P
  rps : tb.rp = true → X.A.guards = some []
  kl : tb.kl = k.tv.kl

section
variable {T : Type} {k : Tk T} {g : Glob T} {tb : Tb} {lv : Nat} {X : Cx}
theorem GOk.hu (G : GOk k g tb lv X) : X.A.units + 65 < cLine := by
  have := G.room.un
  omega
theorem RpA.ofB {Z F : Fz} {H : Hp} {K : PySem.W.Frag} {tv : TV} : ∀ {vs : List V} {ds : List PD}, RpA K tv F H vs ds → Paired (Rb K Z tv F H) vs ds
  | _, _, .nil => .nil
  | _, _, .cons h t => .cons (.of h) (RpA.ofB t)
theorem se_con {c : Nat} {x : Str} {pos : Pos} (G : GOk k g tb lv X) (hg : Gl X x) (hx : tb.cns[c]? = some x) (hd : (x == ("__debug__" : Str)) = false) : SE k g X (.Name x pos) (.con c) := by
  obtain ⟨u, v, d, hm, hr, hd', hp⟩ := G.cons c x hx
  exact se_const (pe_glob hg hm hr hd) (fun ρ τ => by rw [ev, hd']; rfl) hp rfl
/-- the reading of a call -/
theorem call_ok {r : List PD → T → Option (PD × T)} {n : Nat} {ds : List PD} {τ1 τ' : T} {d : PD} {vs : List V} {F F1 : Fz} {H H1 : Hp} {Q : VK} {E : XK} (l1 : Le k.Z F H F1 H1) (g1 : Gd k τ1 F1 H1) (r1 : RpA X.K k.tv F1 H1 vs ds) (e : r ds τ1 = some (d, τ')) (hn : ds.length = n)
    (q : ∀ v F' H', Le k.Z F H F' H' → Gd k τ' F' H' → Rp X.K k.tv F' H' v d → Q v H') : spOf k X.K r n vs H1 Q E :=
  ⟨by rw [r1.length, hn], F1, ds, τ1, d, τ', r1, g1, e, fun v F2 H2 l2 g2 r2 => q v F2 H2 (l1.trans l2) g2 r2⟩
theorem se_call {j : Nat} {x : Str} {p pos : Pos} {e : Expr} {es : List Expr} {ms : Es} (G : GOk k g tb lv X) (hg : Gl X x) (hx : tb.names[j]? = some x) (hd : (x == ("__debug__" : Str)) = false) (hn : (e :: es).all nst = true) (h : SA k g X (e :: es) ms) (hp : ms.noPk = true) :
    SE k g X (.Call (.Name x p) (e :: es) [] pos) (.call j ms) := by
  obtain ⟨t, pa, _, xa⟩ := h.ex
  obtain ⟨f, fd, ps, hm, hk, hb, F, hl⟩ := G.defs j x hx
  rw [List.all_cons, Bool.and_eq_true] at hn
  refine .ofX (pe_call F G.room hg hm hk hb .nil pass0 pa hd (star_cons hn.1) (star_any hn.2)) (fun H0 ρ τ σ F0 H d τ' Q ok gd e q => ?_) rfl
  rw [ev] at e
  obtain ⟨⟨ds, τ1⟩, e1, e⟩ := bind2 e
  refine xa hp H0 ρ τ σ F0 H ds τ1 _ ok gd e1 fun vs F1 H1 l1 g1 r1 => ?_
  rw [List.append_nil]
  exact call_ok l1 g1 r1 e (hl _ _ _ e) q
theorem se_call0 {j : Nat} {x : Str} {p pos : Pos} (G : GOk k g tb lv X) (hg : Gl X x) (hx : tb.names[j]? = some x) (hd : (x == ("__debug__" : Str)) = false) : SE k g X (.Call (.Name x p) [] [] pos) (.call j .nil) := by
  obtain ⟨f, fd, ps, hm, hk, hb, F, hl⟩ := G.defs j x hx
  refine .ofX (pe_call0 F G.room hg hm hk hb .nil pass0 hd) (fun H0 ρ τ σ F0 H d τ' Q ok gd e q => ?_) rfl
  rw [ev, evs] at e
  obtain ⟨⟨ds, τ1⟩, e1, e⟩ := bind2 e
  cases e1
  show spOf k X.K (g.call j) ps.length [] H Q E0
  exact call_ok (.refl _ _ _) gd .nil e (hl _ _ _ e) q

/-! ### built-in functions -/
/-- what a built-in's reading must tell -/
def BiOk (k : Tk T) (K : PySem.W.Frag) (b : Bi) (r : List V → Hp → VK → Prop) : Prop :=
  ∀ (τ : T) (F : Fz) (H : Hp) (vs : List V) (ds : List PD) (d : PD) (Q : VK), Gd k τ F H → Paired (Rb K k.Z k.tv F H) vs ds → biD b ds = some d →
    (∀ v H', Le k.Z F H F H' → Gd k τ F H' → FrV K k.tv H F H' v d → Q v H') → r vs H Q
theorem FrV.back {F F1 : Fz} {H H1 H2 : Hp} {v : V} {d : PD} {F2 : Fz} (l : Le k.Z F H F1 H1) (h : FrV X.K k.tv H1 F2 H2 v d) : FrV X.K k.tv H F2 H2 v d := by
  cases d with
  | list ds =>
    obtain ⟨a, xs, rfl, hn, hf, hH, ha⟩ := h
    exact ⟨a, xs, rfl, none_of_le l hn, hf, hH, ha⟩
  | _ => exact h
theorem rf_bi {b : Bi} {r : List V → Hp → VK → Prop} {t : TA} {ms : Es} (hb : BiOk k X.K b r) (h : RAb k g X t ms) : RF k g X (tCB r t) (.bi b ms) := fun H0 ρ τ σ F H d τ' Q ok gd e q => by
  rw [ev] at e
  obtain ⟨⟨ds, τ1⟩, e1, e⟩ := bind2 e
  obtain ⟨d', e2, e3⟩ := Option.map_eq_some_iff.mp e
  cases e3
  refine h H0 ρ τ σ F H ds τ1 _ ok gd e1 fun vs F1 H1 l1 g1 r1 => ?_
  exact hb τ1 F1 H1 vs ds d Q g1 r1 e2 fun v H2 l2 g2 f => q v F1 H2 (l1.trans l2) g2 (f.back l1)
theorem SE.ofF' {e : Expr} {m : E} {t : TE} (h : PE X e t) (r : RF k g X t m) : SE k g X e m := ⟨t, h, fun _ => r.x, r.b, fun _ => r⟩
theorem se_biB {b : Bi} {id : String} {r : List V → Hp → VK → Prop} {x : Str} {p pos : Pos} {e : Expr} {es : List Expr} {ms : Es} (hc : CallR X (.builtin id) r) (hb : BiOk k X.K b r) (G : GOk k g tb lv X) (hg : Gl X x) (hx : x ∈ tb.bl) (hv : bootBuiltins x = some (.builtin id))
    (h1 : x ≠ "__name__") (h2 : (x == ("__debug__" : Str)) = false) (hn : (e :: es).all nst = true) (h : SA k g X (e :: es) ms) : SE k g X (.Call (.Name x p) (e :: es) [] pos) (.bi b ms) := by
  obtain ⟨t, pa, ba, _⟩ := h.ex
  rw [List.all_cons, Bool.and_eq_true] at hn
  exact .ofF' (pe_callB hc hg (G.blt x hx) hv pa h1 h2 (star_cons hn.1) (star_any hn.2)) (rf_bi hb ba)
theorem se_biT {b : Bi} {ty : String} {r : List V → Hp → VK → Prop} {x : Str} {p pos : Pos} {e : Expr} {es : List Expr} {ms : Es} (hc : CallR X (.type ty) r) (hb : BiOk k X.K b r) (G : GOk k g tb lv X) (hg : Gl X x) (hx : x ∈ tb.bl) (hv : bootBuiltins x = some (.type ty))
    (h1 : x ≠ "__name__") (h2 : (x == ("__debug__" : Str)) = false) (hn : (e :: es).all nst = true) (h : SA k g X (e :: es) ms) : SE k g X (.Call (.Name x p) (e :: es) [] pos) (.bi b ms) := by
  obtain ⟨t, pa, ba, _⟩ := h.ex
  rw [List.all_cons, Bool.and_eq_true] at hn
  exact .ofF' (pe_callTy hc hg (G.blt x hx) hv pa h1 h2 (star_cons hn.1) (star_any hn.2)) (rf_bi hb ba)
theorem se_biM {b : Bi} {id : String} {r : List V → Hp → VK → Prop} {x : Str} {p pos : Pos} {e : Expr} {es : List Expr} {ms : Es} (hc : CallR X (.builtin id) r) (hb : BiOk k X.K b r) (G : GOk k g tb lv X) (hg : Gl X x) (hx : (x, id) ∈ tb.mf)
    (h2 : (x == ("__debug__" : Str)) = false) (hn : (e :: es).all nst = true) (h : SA k g X (e :: es) ms) : SE k g X (.Call (.Name x p) (e :: es) [] pos) (.bi b ms) := by
  obtain ⟨t, pa, ba, _⟩ := h.ex
  rw [List.all_cons, Bool.and_eq_true] at hn
  exact .ofF' (pe_callBfun hc hg (G.mf _ hx) pa h2 (star_cons hn.1) (star_any hn.2)) (rf_bi hb ba)
theorem pr1 {F : Fz} {H : Hp} {vs : List V} {d : PD} {R : V → PD → Prop} (h : Paired R vs [d]) : ∃ v, vs = [v] ∧ R v d := by
  cases h with
  | cons h t => cases t; exact ⟨_, rfl, h⟩
theorem pr2 {vs : List V} {d e : PD} {R : V → PD → Prop} (h : Paired R vs [d, e]) : ∃ v w, vs = [v, w] ∧ R v d ∧ R w e := by
  cases h with
  | cons h t => cases t with | cons h2 t => cases t; exact ⟨_, _, rfl, h, h2⟩

def rLen (K : PySem.W.Frag) : List V → Hp → VK → Prop := fun xs H Q => ∃ x n, xs = [x] ∧ LenV K x H n ∧ Q (.int n) H
theorem bi_len : BiOk k X.K .len (rLen X.K) := fun τ F H vs ds d Q gd r e q => by
  unfold biD at e
  split at e
  all_goals first | contradiction | skip
  · cases e
    cases r with
    | cons r t =>
      cases t
      obtain ⟨a, xs, rfl, h, ra⟩ := r.list
      refine ⟨_, _, rfl, .inl ⟨xs, h, rfl⟩, ?_⟩
      rw [ra.length]
      exact q _ H (.refl _ _ _) gd (Rp.int _)
  · cases e
    cases r with
    | cons r t =>
      cases t
      obtain ⟨a, xs, rfl, h, ra⟩ := r.tuple
      refine ⟨_, _, rfl, .inr ⟨xs, h, rfl⟩, ?_⟩
      rw [ra.length]
      exact q _ H (.refl _ _ _) gd (Rp.int _)
  · split at e
    · rename_i hz
      cases e
      cases r with
      | cons r t =>
        cases t
        cases r.str
        exact ⟨_, _, rfl, ⟨okLen_le hz, rfl⟩, q _ H (.refl _ _ _) gd (Rp.int _)⟩
    · cases e
  all_goals cases e
theorem bi_abs : BiOk k X.K .abs (fun xs H Q => ∃ i, xs = [.int i] ∧ Q (.int (if i < 0 then -i else i)) H) := fun τ F H vs ds d Q gd r e q => by
  unfold biD at e
  split at e
  all_goals first | contradiction | skip
  · cases e
    cases r with
    | cons r t =>
      cases t
      cases r.int
      exact ⟨_, rfl, q _ H (.refl _ _ _) gd (Rp.int _)⟩
  all_goals cases e
theorem ints_rpa {F : Fz} {H : Hp} : ∀ {ds : List PD} {vs : List V} {ns : List Int}, RpA X.K k.tv F H vs ds → intsOf ds = some ns → vs = ns.map V.int
  | _, _, _, .nil, e => by cases e; rfl
  | _, _, _, .cons (d := d) h t, e => by
    cases d with
    | int i =>
      rw [intsOf] at e
      obtain ⟨r, e1, e2⟩ := Option.map_eq_some_iff.mp e
      cases e2
      cases h
      rw [ints_rpa t e1]
      rfl
    | _ => cases e
theorem bools_rpa {F : Fz} {H : Hp} : ∀ {ds : List PD} {vs : List V} {ns : List Bool}, RpA X.K k.tv F H vs ds → boolsOf ds = some ns → vs = ns.map V.bl
  | _, _, _, .nil, e => by cases e; rfl
  | _, _, _, .cons (d := d) h t, e => by
    cases d with
    | bool i =>
      rw [boolsOf] at e
      obtain ⟨r, e1, e2⟩ := Option.map_eq_some_iff.mp e
      cases e2
      cases h
      rw [bools_rpa t e1]
      rfl
    | _ => cases e
theorem maxI_le : ∀ (r : List Int) (m : Int), m ≤ maxI m r ∧ ∀ y ∈ r, y ≤ maxI m r
  | [], m => ⟨Int.le_refl _, fun _ h => by cases h⟩
  | x :: r, m => by
    rw [maxI]
    have h := maxI_le r (if x > m then x else m)
    split at h <;> rename_i c
    · exact ⟨by rw [if_pos c]; omega, fun y hy => by
        rw [if_pos c]
        rcases List.mem_cons.mp hy with rfl | hy
        · exact h.1
        · exact h.2 y hy⟩
    · exact ⟨by rw [if_neg c]; exact h.1, fun y hy => by
        rw [if_neg c]
        rcases List.mem_cons.mp hy with rfl | hy
        · omega
        · exact h.2 y hy⟩
theorem maxI_mem : ∀ (r : List Int) (m : Int), maxI m r = m ∨ maxI m r ∈ r
  | [], m => .inl rfl
  | x :: r, m => by
    rw [maxI]
    rcases maxI_mem r (if x > m then x else m) with h | h
    · rw [h]
      split
      · exact .inr List.mem_cons_self
      · exact .inl rfl
    · exact .inr (List.mem_cons_of_mem _ h)
theorem minI_le : ∀ (r : List Int) (m : Int), minI m r ≤ m ∧ ∀ y ∈ r, minI m r ≤ y
  | [], m => ⟨Int.le_refl _, fun _ h => by cases h⟩
  | x :: r, m => by
    rw [minI]
    have h := minI_le r (if x < m then x else m)
    split at h <;> rename_i c
    · exact ⟨by rw [if_pos c]; omega, fun y hy => by
        rw [if_pos c]
        rcases List.mem_cons.mp hy with rfl | hy
        · exact h.1
        · exact h.2 y hy⟩
    · exact ⟨by rw [if_neg c]; exact h.1, fun y hy => by
        rw [if_neg c]
        rcases List.mem_cons.mp hy with rfl | hy
        · omega
        · exact h.2 y hy⟩
theorem minI_mem : ∀ (r : List Int) (m : Int), minI m r = m ∨ minI m r ∈ r
  | [], m => .inl rfl
  | x :: r, m => by
    rw [minI]
    rcases minI_mem r (if x < m then x else m) with h | h
    · rw [h]
      split
      · exact .inr List.mem_cons_self
      · exact .inl rfl
    · exact .inr (List.mem_cons_of_mem _ h)
/-- the sum of a tuple of ints -/
def rSumT (K : PySem.W.Frag) : List V → Hp → VK → Prop := fun vs H Q => ∃ (a : Addr) (ns : List Int), vs = [V.ref a] ∧ SqT K H a (ns.map V.int) ∧ Q (.int ns.sum) H
abbrev rSumX (K : PySem.W.Frag) : List V → Hp → VK → Prop := fun xs H Q => rSum K xs H Q ∨ rSumT K xs H Q
theorem cr_sumT (hc : X.calm = true) : CallR X (.builtin "sum") (rSumT X.K) := by
  intro pins s σ H vs us Q I r h
  obtain ⟨t, ns, rfl, ht, q⟩ := h
  obtain ⟨its, rv, pt, _⟩ := I.tuple ht
  have isT : s.heap.IsTuple t its.toArray := pt
  rw [Vals.ref1 r]
  have hi := rv.ints
  obtain ⟨ys, e⟩ := hi.allInts.items
  have hn : numsOf (intItems ys).toList = ns := by rw [← e]; exact hi.numsOf
  rw [nums_intItems] at hn
  rw [e] at isT
  refine PySem.W.ktm_sumG (I.ok.hd hc) isT fun h' tk t' k => ?_
  rw [preSum_eq, List.take_of_length_le (by simp), hn]
  exact ⟨.int _, H, I.kept k, ⟨_, rfl⟩, q⟩
theorem bi_sum : BiOk k X.K .sum (rSumX X.K) := fun τ F H vs ds d Q gd r e q => by
  unfold biD at e
  split at e
  all_goals first | contradiction | skip
  · obtain ⟨ns, e0, e1⟩ := Option.map_eq_some_iff.mp e
    cases e1
    obtain ⟨v, rfl, h1⟩ := pr1 (F := F) (H := H) r
    obtain ⟨a, xs, rfl, h, ra⟩ := h1.list
    rw [ints_rpa ra e0] at h
    exact .inl ⟨a, _, rfl, h, q _ H (.refl _ _ _) gd (Rp.int _)⟩
  · obtain ⟨ns, e0, e1⟩ := Option.map_eq_some_iff.mp e
    cases e1
    obtain ⟨v, rfl, h1⟩ := pr1 (F := F) (H := H) r
    rcases h1 with h1 | ⟨_, _, _, _, z, _⟩
    · cases h1 with
      | tup h ra =>
        rw [ints_rpa ra e0] at h
        exact .inr ⟨_, _, rfl, h.sq, q _ H (.refl _ _ _) gd (Rp.int _)⟩
    · cases z
  all_goals cases e
theorem bi_all : BiOk k X.K .all (rAll X.K) := fun τ F H vs ds d Q gd r e q => by
  unfold biD at e
  split at e
  all_goals first | contradiction | skip
  · obtain ⟨ns, e0, e1⟩ := Option.map_eq_some_iff.mp e
    cases e1
    obtain ⟨v, rfl, h1⟩ := pr1 (F := F) (H := H) r
    obtain ⟨a, xs, rfl, h, ra⟩ := h1.list
    rw [bools_rpa ra e0] at h
    exact ⟨a, _, rfl, h, q _ H (.refl _ _ _) gd (Rp.bl _)⟩
  all_goals cases e
theorem bi_any : BiOk k X.K .any (rAny X.K) := fun τ F H vs ds d Q gd r e q => by
  unfold biD at e
  split at e
  all_goals first | contradiction | skip
  · obtain ⟨ns, e0, e1⟩ := Option.map_eq_some_iff.mp e
    cases e1
    obtain ⟨v, rfl, h1⟩ := pr1 (F := F) (H := H) r
    obtain ⟨a, xs, rfl, h, ra⟩ := h1.list
    rw [bools_rpa ra e0] at h
    exact ⟨a, _, rfl, h, q _ H (.refl _ _ _) gd (Rp.bl _)⟩
  all_goals cases e
theorem bi_gcd : BiOk k X.K .gcd rGcd := fun τ F H vs ds d Q gd r e q => by
  unfold biD at e
  split at e
  all_goals first | contradiction | skip
  · cases e
    obtain ⟨v, w, rfl, h1, h2⟩ := pr2 r
    cases h1.int
    cases h2.int
    exact ⟨_, _, rfl, q _ H (.refl _ _ _) gd (Rp.int _)⟩
  all_goals cases e
/-- math.isqrt -/
def rIsq : List V → Hp → VK → Prop := fun vs H Q => ∃ a : Int, vs = [.int a] ∧ 0 ≤ a ∧ a < 18446744073709551616 ∧ Q (.int ((PySem.Float64.isqrt a.toNat : Nat) : Int)) H
theorem cr_isq : CallR X (.builtin "math.isqrt") rIsq := by
  intro pins s σ H vs us Q I r h
  obtain ⟨a, rfl, h0, h1, q⟩ := h
  obtain ⟨u, rfl, t, rfl⟩ := Vals.one r
  exact PySem.W.mg_isqrt h0 (by omega) ⟨.int _, H, I.tok _, ⟨_, rfl⟩, q⟩
theorem bi_isq : BiOk k X.K .isqrt rIsq := fun τ F H vs ds d Q gd r e q => by
  unfold biD at e
  split at e
  all_goals first | contradiction | skip
  · split at e
    · rename_i hc
      cases e
      rw [Bool.and_eq_true, decide_eq_true_eq, decide_eq_true_eq] at hc
      obtain ⟨v, rfl, h1⟩ := pr1 (F := F) (H := H) r
      cases h1.int
      exact ⟨_, rfl, hc.1, hc.2, q _ H (.refl _ _ _) gd (Rp.int _)⟩
    · cases e
  all_goals cases e
def rListOf (K : PySem.W.Frag) : List V → Hp → VK → Prop := fun xs H Q => ∃ p ys, xs = [.ref p] ∧ (SqL K H p ys ∨ SqT K H p ys) ∧ ∀ l, H l = none → Q (.ref l) (upd H l (.lst ys))
theorem bi_list : BiOk k X.K .list (rListOf X.K) := fun τ F H vs ds d Q gd r e q => by
  unfold biD at e
  split at e
  all_goals first | contradiction | skip
  · cases e
    obtain ⟨v, rfl, h1⟩ := pr1 (F := F) (H := H) r
    obtain ⟨a, xs, rfl, h, ra⟩ := h1.list
    exact ⟨a, xs, rfl, .inl h, fun p hp => q _ _ (le_new (.refl _ _ _) hp) (gd_new gd hp) (frv_new (.refl _ _ _) gd hp ra)⟩
  · cases e
    obtain ⟨v, rfl, h1⟩ := pr1 (F := F) (H := H) r
    obtain ⟨a, xs, rfl, h, ra⟩ := h1.tuple
    exact ⟨a, xs, rfl, .inr h, fun p hp => q _ _ (le_new (.refl _ _ _) hp) (gd_new gd hp) (frv_new (.refl _ _ _) gd hp ra)⟩
  all_goals cases e
def rTupOf (K : PySem.W.Frag) : List V → Hp → VK → Prop := fun xs H Q => ∃ p ys, xs = [.ref p] ∧ ((SqL K H p ys ∧ ∀ l, H l = none → Q (.ref l) (upd H l (.tup ys))) ∨ (SqT K H p ys ∧ Q (.ref p) H))
theorem bi_tuple : BiOk k X.K .tuple (rTupOf X.K) := fun τ F H vs ds d Q gd r e q => by
  unfold biD at e
  split at e
  all_goals first | contradiction | skip
  · cases e
    obtain ⟨v, rfl, h1⟩ := pr1 (F := F) (H := H) r
    obtain ⟨a, xs, rfl, h, ra⟩ := h1.list
    exact ⟨a, xs, rfl, .inl ⟨h, fun p hp => q _ _ (le_new (.refl _ _ _) hp) (gd_new gd hp) (rp_tup gd hp ra)⟩⟩
  · cases e
    obtain ⟨v, rfl, h1⟩ := pr1 (F := F) (H := H) r
    cases h1.rpT with | tup h ra => ?_
    exact ⟨_, _, rfl, .inr ⟨h.sq, q _ _ (.refl _ _ _) gd (Rp.tup h ra)⟩⟩
  all_goals cases e
end
end Fh
namespace Fh
open PySem L2 PyProof.Rows

/-! ### sorting by insertion is THE stable sorting -/
section
variable {α β : Type} {le : α → α → Bool}
open PySem.W
theorem ins_filter (h : TotalLe le) (c x : α) : ∀ l : List α, (insSort.ins le x l).filter (sameRank le c) = (x :: l).filter (sameRank le c)
  | [] => rfl
  | y :: r => by
    rw [insSort.ins]
    split
    · rfl
    · rename_i hn
      have ih := ins_filter h c x r
      by_cases hx : sameRank le c x = true
      · have hy : ¬ sameRank le c y = true := fun hy => hn (by
          unfold sameRank at hx hy
          rw [Bool.and_eq_true] at hx hy
          exact h.trans x c y hx.2 hy.1)
        rw [List.filter_cons_of_neg hy, ih, List.filter_cons_of_pos hx, List.filter_cons_of_pos hx, List.filter_cons_of_neg hy]
      · rw [List.filter_cons_of_neg hx] at ih ⊢
        by_cases hy : sameRank le c y = true
        · rw [List.filter_cons_of_pos hy, List.filter_cons_of_pos hy, ih]
        · rw [List.filter_cons_of_neg hy, List.filter_cons_of_neg hy, ih]
theorem ins_mem {x : α} : ∀ {l : List α} {y : α}, y ∈ insSort.ins le x l → y = x ∨ y ∈ l
  | [], y, h => by simpa [insSort.ins] using h
  | z :: r, y, h => by
    rw [insSort.ins] at h
    split at h
    · exact List.mem_cons.mp h
    · rcases List.mem_cons.mp h with rfl | h
      · exact .inr List.mem_cons_self
      · rcases ins_mem h with h | h
        · exact .inl h
        · exact .inr (List.mem_cons_of_mem _ h)
theorem ins_pw (h : TotalLe le) {x : α} : ∀ {l : List α}, l.Pairwise (fun a b => le a b = true) → (insSort.ins le x l).Pairwise (fun a b => le a b = true)
  | [], _ => by simp [insSort.ins]
  | y :: r, p => by
    rw [insSort.ins]
    rw [List.pairwise_cons] at p
    split
    · rename_i hxy
      refine List.pairwise_cons.mpr ⟨fun z hz => ?_, List.pairwise_cons.mpr p⟩
      rcases List.mem_cons.mp hz with rfl | hz
      · exact hxy
      · exact h.trans x y z hxy (p.1 z hz)
    · rename_i hn
      refine List.pairwise_cons.mpr ⟨fun z hz => ?_, ins_pw h p.2⟩
      rcases ins_mem hz with rfl | hz
      · exact (h.total y z).resolve_right hn
      · exact p.1 z hz
theorem insSort_pw (h : TotalLe le) : ∀ l : List α, (insSort le l).Pairwise (fun a b => le a b = true)
  | [] => .nil
  | x :: r => ins_pw h (insSort_pw h r)
theorem insSort_filter (h : TotalLe le) (c : α) : ∀ l : List α, (insSort le l).filter (sameRank le c) = l.filter (sameRank le c)
  | [] => rfl
  | x :: r => by
    rw [insSort, ins_filter h c x]
    by_cases hx : sameRank le c x = true
    · rw [List.filter_cons_of_pos hx, List.filter_cons_of_pos hx, insSort_filter h c r]
    · rw [List.filter_cons_of_neg hx, List.filter_cons_of_neg hx, insSort_filter h c r]
theorem insSort_merge (h : TotalLe le) (l : List α) : insSort le l = l.mergeSort le := sort_unique h (insSort_pw h l) fun c => insSort_filter h c l
theorem ins_congr {le' : α → α → Bool} {x : α} : ∀ {l : List α}, (∀ b ∈ l, le x b = le' x b) → insSort.ins le x l = insSort.ins le' x l
  | [], _ => rfl
  | y :: r, h => by
    rw [insSort.ins, insSort.ins, h y List.mem_cons_self, ins_congr fun b hb => h b (List.mem_cons_of_mem _ hb)]
theorem ins_perm {x : α} : ∀ l : List α, (insSort.ins le x l).Perm (x :: l)
  | [] => .refl _
  | y :: r => by
    rw [insSort.ins]
    split
    · exact .refl _
    · exact ((ins_perm r).cons y).trans (.swap x y r)
theorem insSort_perm : ∀ l : List α, (insSort le l).Perm l
  | [] => .refl _
  | x :: r => (ins_perm _).trans ((insSort_perm r).cons x)
theorem insSort_congr {le' : α → α → Bool} : ∀ {l : List α}, (∀ a ∈ l, ∀ b ∈ l, le a b = le' a b) → insSort le l = insSort le' l
  | [], _ => rfl
  | x :: r, h => by
    rw [insSort, insSort, insSort_congr fun a ha b hb => h a (List.mem_cons_of_mem _ ha) b (List.mem_cons_of_mem _ hb)]
    refine ins_congr fun b hb => h x List.mem_cons_self b (List.mem_cons_of_mem _ ?_)
    exact (insSort_perm r).mem_iff.mp hb
theorem insSort_le (le1 : α → α → Bool) (p : ∀ a b, le a b = true → le b a = true → a = b) {l m : List α} (hl : l.Pairwise (fun a b => le a b = true)) (hm : m.Pairwise (fun a b => le a b = true)) (hp : l.Perm m) : l = m :=
  hp.eq_of_pairwise (fun a b _ _ h1 h2 => p a b h1 h2) hl hm
end

/-! ### sorted(tuple): as sorted(list) -/
section
open PySem.W PySem.Calls
variable {prog : Program} {w : World} {A : Around} {E : Value → Shared → Prop} {s : Shared}
theorem collect_tuple {l : Addr} {vs : List Value} {Q : List Value → Shared → Prop} (hl : s.heap.IsTuple l vs.toArray)
    (h : Q vs { s with heap := (s.heap.push (seqObj "list" #[] 0)).update s.heap.objs.size (Obj.mapSeq (· ++ vs.toArray)) }) (hsz : vs.length ≤ sizeLine) :
    wpAny (model prog w) A (collect (.ref l)) Q E s := by
  obtain ⟨o, ho, hc, n, hd⟩ := id hl
  unfold collect
  refine wpAny_bind (wpAny_runValue (codeAny_builtin entry_proto_collect' ?_))
  show wpAny _ _ (do again (.builtin "list.__iadd__" ⟨[← newList [], .ref l], []⟩)) _ _ s
  refine wpAny_bind (wpAny_newList (wpAny_pure ⟨Code.quiet_builtin _ (by decide +kernel), codeAny_builtin entry_list_iadd' ?_⟩))
  show wpAny _ _ (Builtin.List.listExtendWith (.ref s.heap.objs.size) (.ref l) (.ref s.heap.objs.size)) _ _ { s with heap := s.heap.push (seqObj "list" #[] 0) }
  unfold Builtin.List.listExtendWith
  have ho' : (s.heap.push (seqObj "list" #[] 0)).get? l = some o := Heap.get?_push_of_some _ ho
  refine wpAny_bind (wpAny_typeOf (T := "tuple") ⟨o, ho', hc⟩ ?_)
  have ht : (Value.type "tuple" == Value.type "tuple") = true := by rfl
  rw [if_pos (by rw [ht]; simp)]
  refine wpAny_bind (listItems_at ho' hd ?_)
  refine wpAny_bind (listItems_at (xs := #[]) (n := 0) (Heap.get?_push_size _ rfl) rfl ?_)
  rw [if_neg (by simp)]
  refine wpAny_bind (listUpdate_at (xs := #[]) (n := 0) (Heap.get?_push_size _ rfl) rfl ?_ (Nat.zero_le _) (by show (#[] ++ vs.toArray).size ≤ sizeLine + 1; simp only [Array.size_append, List.size_toArray, List.length_nil]; omega))
  refine wpAny_pure ?_
  show wpAny (model prog w) A (do
      let o ← load s.heap.objs.size
      match o.data with
      | .seq xs _ => pure xs.toList
      | _ => unsupported "internal:collect") Q E { s with heap := (s.heap.push (seqObj "list" #[] 0)).update s.heap.objs.size (Obj.mapSeq (· ++ vs.toArray)) }
  refine wpAny_bind (wpAny_load (get?_update_seq (Heap.get?_push_size _ rfl) _) ?_)
  show wpAny _ _ (pure ((#[] : Array Value) ++ vs.toArray).toList) Q E _
  rw [show ((#[] : Array Value) ++ vs.toArray).toList = vs by simp]
  exact wpAny_pure h
theorem sorted_of_sortT {l : Addr} {vs : List Value} {kw : List (Str × Value)} {Q : Value → Shared → Prop} (hl : s.heap.IsTuple l vs.toArray) (hL : vs.length ≤ sizeLine) (ha1 : argsOk "sorted" ⟨[.ref l], kw⟩) (ha2 : ∀ x, argsOk "list.sort" ⟨[.ref x], kw⟩)
    (body : ∀ E' : Value → Shared → Prop, wpAny (model prog w) A.in1.in1 (Builtin.«list.sort» ⟨[.ref (s.heap.objs.size + 1)], kw⟩) (fun f s' => f = .done (.ret .none) ∧ Q (.ref (s.heap.objs.size + 1)) s') E' { s with heap := copyHeap s.heap vs }) :
    wpAny (model prog w) A (call (.builtin "sorted") [.ref l] kw) Q E s := by
  refine call_function_entry_kw kind_sorted plain_sorted entry_sorted ha1 ?_
  unfold Builtin.«sorted»
  refine wpAny_bind (m := checkCount "sorted" 1 1 _) (wpAny_pure ?_)
  refine wpAny_bind (collect_tuple hl ?_ hL)
  refine wpAny_bind (wpAny_newList ?_ hL)
  have hsz : ((s.heap.push (seqObj "list" #[] 0)).update s.heap.objs.size (Obj.mapSeq (· ++ vs.toArray))).objs.size = s.heap.objs.size + 1 := by
    rw [Heap.size_update, size_push']
  show wpAny _ _ _ _ _ { s with heap := copyHeap s.heap vs }
  rw [hsz]
  refine wpAny_bind (wpAny_holding (wpAny_call_entry_kw slot_list_sort ⟨_, copyHeap_at s.heap vs, rfl⟩ entry_list_sort ?body (ha2 _)))
  case body =>
    show wpAny (model prog w) A.in1.in1 (Builtin.«list.sort» ⟨[.ref (s.heap.objs.size + 1)], kw⟩) _ _ _
    refine wpAny_mono (body _) (fun f s' hf => ?_) fun _ _ e => e
    obtain ⟨rfl, hq⟩ := hf
    exact ⟨_, rfl, wpAny_pure ⟨_, rfl, hq⟩⟩
theorem sorted_data2 {β : Type} {bs : List β} {vs : List Value} {enc : β → PyData} {R : Value → β → Prop} {l : Addr} {Q : Value → Shared → Prop} (hl : s.heap.IsList l vs.toArray ∨ s.heap.IsTuple l vs.toArray) (e : EachIs R vs bs) (er : EachIs (fun v b => ∃ as, Reads s.heap v (enc b) as) vs bs) (hal : AllAlike (bs.map enc)) (hk : Sortable (bs.map enc)) (hL : bs.length ≤ sizeLine)
    (hu : ∀ b, b ∈ bs → A.units + 2 + (enc b).depth < cLine) (h : ∀ out, out.length = bs.length → EachIs R out (bs.mergeSort (dataLe false enc)) → Q (.ref (s.heap.objs.size + 1)) { s with heap := sortedAll s.heap vs (List.toArray out) }) :
    wpAny (model prog w) A (call (.builtin "sorted") [.ref l]) Q E s := by
  rcases hl with hl | hl
  · exact sorted_data hl e er hal hk hL hu h
  · have er' : EachIs (fun v b => ∃ as, Reads (sortingHeap (copyHeap s.heap vs) (s.heap.objs.size + 1) vs) v (enc b) as) vs bs := er.mono fun _ _ ⟨as, r⟩ => ⟨as, PyProof.Rows.Reads.keeps (fun _ _ => sorting_copy_old) r⟩
    have hL' : vs.length ≤ sizeLine := by rw [e.length]; exact hL
    exact sorted_of_sortT hl hL' (args_sorted1 _) (fun _ => args_list_sort _) fun _ => list_sort_vals (s := { s with heap := copyHeap s.heap vs }) (copyHeap_at s.heap vs) (SortsAt.data (s := { s with heap := sortingHeap (copyHeap s.heap vs) (s.heap.objs.size + 1) vs }) (each_map (R := fun v d => ∃ as, Reads (sortingHeap (copyHeap s.heap vs) (s.heap.objs.size + 1) vs) v d as) enc er') hal hk (bound_map hu)) hL'
      ⟨rfl, h _ (by rw [sortVals_length false rfl]; exact e.length) (sortVals_data false e er' hal)⟩
end

section
variable {T : Type} {k : Tk T} {g : Glob T} {tb : Tb} {lv : Nat} {X : Cx}
open PySem.W
/-- sorted(xs), by data -/
def rSortD (K : PySem.W.Frag) : List V → Hp → VK → Prop := fun vs H Q => ∃ (a : Addr) (zs : List (V × PD)), vs = [V.ref a] ∧ (SqL K H a (zs.map (·.1)) ∨ SqT K H a (zs.map (·.1))) ∧ (∀ z ∈ zs, Dp K H z.1 z.2) ∧ AllAlike (zs.map (·.2)) ∧ Sortable (zs.map (·.2)) ∧ (∀ z ∈ zs, z.2.depth ≤ 60) ∧
  ∀ p, H p = none → Q (.ref p) (upd H p (.lst ((zs.mergeSort (dataLe false (·.2))).map (·.1))))
theorem eachIs_of {R : Value → V × PD → Prop} : ∀ {zs : List (V × PD)} {us : List Value}, Vals (zs.map (·.1)) us → (∀ z ∈ zs, ∀ u, RelV z.1 u → R u z) → EachIs R us zs
  | [], _, .nil, _ => .nil
  | z :: zs, _, .cons h t, hr => .cons (hr z List.mem_cons_self _ h) (eachIs_of t fun y hy u => hr y (List.mem_cons_of_mem _ hy) u)
theorem vals_each : ∀ {zs : List (V × PD)} {us : List Value}, EachIs (fun u z => RelV z.1 u) us zs → Vals (zs.map (·.1)) us
  | _, _, .nil => .nil
  | _, _, .cons h t => .cons h (vals_each t)
theorem cr_sortD (hu : X.A.units + 65 < cLine) : CallR X (.builtin "sorted") (rSortD X.K) := by
  intro pins s σ H vs us Q I r h
  obtain ⟨a, zs, rfl, hs, hd, hal, hk, hz, q⟩ := h
  rw [Vals.ref1 r]
  obtain ⟨its, rv, hl, hsz⟩ : ∃ its : List Value, Vals (zs.map (·.1)) its ∧ (s.heap.IsList a its.toArray ∨ s.heap.IsTuple a its.toArray) ∧ (zs.map (·.1)).length ≤ sizeLine := by
    rcases hs with hs | hs
    · obtain ⟨its, rv, hl, hz⟩ := I.list hs
      exact ⟨its, rv, .inl hl.isList, hz⟩
    · obtain ⟨its, rv, hl, hz⟩ := I.tuple hs
      exact ⟨its, rv, .inr hl, hz⟩
  rw [List.length_map] at hsz
  refine sorted_data2 (enc := (·.2)) (bs := zs) (R := fun u z => RelV z.1 u) hl (eachIs_of rv fun z _ u h => h) (eachIs_of rv fun z hm u h => Dp.reads I z.2 z.1 u (hd z hm) h) hal hk hsz (fun z hm => ?_) fun out hlen hout => ?_
  · have := hz z hm
    omega
  · obtain ⟨ep, he'⟩ := PyProof.Rows.sortedAll_at s.heap its out.toArray
    have hl2 : ((zs.mergeSort (dataLe false (·.2))).map (·.1)).length ≤ sizeLine := by
      rw [List.length_map, List.length_mergeSort]
      exact hsz
    exact ⟨.ref _, upd H (s.heap.objs.size + 1) (.lst ((zs.mergeSort (dataLe false (·.2))).map (·.1))), I.laid (t' := s.toks) (fun _ _ => PyProof.Rows.sortedAll_old) (Nat.le_succ _) ⟨hl2, out, ep, vals_each hout, he'⟩, rfl, q _ (I.hok.fresh (Nat.le_succ _))⟩

/-! the check's meaning -/
theorem allInt_of : ∀ {xs : List PD}, xs.all isInt = true → ∃ ns : List Int, xs = ns.map .int
  | [], _ => ⟨[], rfl⟩
  | x :: r, h => by
    rw [List.all_cons, Bool.and_eq_true] at h
    obtain ⟨ns, rfl⟩ := allInt_of h.2
    cases x with
    | int i => exact ⟨i :: ns, rfl⟩
    | _ => cases h.1
theorem shaped_int (i : Int) : (PyData.int i).canLay0 = true := rfl
theorem depthAll_ints : ∀ ns : List Int, PyData.depthAll (ns.map PyData.int) = 0
  | [] => rfl
  | n :: ns => by
    rw [List.map_cons, PyData.depthAll, depthAll_ints ns]
    simp [PyData.depth]
theorem layAll_ints : ∀ ns : List Int, PyData.canLayAll0 (ns.map PyData.int) = true
  | [] => rfl
  | n :: ns => by
    rw [List.map_cons, PyData.canLayAll0, layAll_ints ns]
    simp [PyData.canLay0]
theorem sortable_ok {xs : List PD} (h : sortable xs = true) : AllAlike xs ∧ Sortable xs ∧ ∀ d ∈ xs, d.canLay0 = true ∧ d.depth ≤ 60 := by
  unfold sortable at h
  simp only [Bool.or_eq_true] at h
  rcases h with ((h | h) | h) | h
  · have key : ∀ d ∈ xs, ∃ i, d = .int i := fun d hd => by
      have := List.all_eq_true.mp h d hd
      cases d with
      | int i => exact ⟨i, rfl⟩
      | _ => cases this
    refine ⟨fun d hd e he => ?_, .inr fun d hd => ?_, fun d hd => ?_⟩
    · obtain ⟨i, rfl⟩ := key d hd
      obtain ⟨j, rfl⟩ := key e he
      rfl
    · obtain ⟨i, rfl⟩ := key d hd
      exact ⟨(fun z => nomatch z), (fun _ z => nomatch z)⟩
    · obtain ⟨i, rfl⟩ := key d hd
      exact ⟨rfl, by simp [PyData.depth]⟩
  · have key : ∀ d ∈ xs, ∃ i, d = .str i ∧ (PyData.str i).canLay0 = true := fun d hd => by
      have := List.all_eq_true.mp h d hd
      cases d with
      | str i => exact ⟨i, rfl, this⟩
      | _ => cases this
    refine ⟨fun d hd e he => ?_, .inr fun d hd => ?_, fun d hd => ?_⟩
    · obtain ⟨i, rfl, _⟩ := key d hd
      obtain ⟨j, rfl, _⟩ := key e he
      rfl
    · obtain ⟨i, rfl, _⟩ := key d hd
      exact ⟨(fun z => nomatch z), (fun _ z => nomatch z)⟩
    · obtain ⟨i, rfl, hi⟩ := key d hd
      exact ⟨hi, by simp [PyData.depth]⟩
  · have key : ∀ d ∈ xs, ∃ i, ∃ ns : List Int, d = .tuple (.int i :: ns.map .int) := fun d hd => by
      have := List.all_eq_true.mp h d hd
      cases d with
      | tuple ys =>
        cases ys with
        | nil => cases this
        | cons y ys =>
          rw [isIntT, Bool.and_eq_true] at this
          obtain ⟨ns, rfl⟩ := allInt_of this.2
          cases y with
          | int i => exact ⟨i, ns, rfl⟩
          | _ => cases this.1
      | _ => cases this
    refine ⟨fun d hd e he => ?_, .inl fun d hd => ?_, fun d hd => ?_⟩
    · obtain ⟨i, ns, rfl⟩ := key d hd
      obtain ⟨j, ms, rfl⟩ := key e he
      show alikeAll _ _ = true
      rw [alikeAll, alike_ints]
      rfl
    · obtain ⟨i, ns, rfl⟩ := key d hd
      exact ⟨_, _, rfl⟩
    · obtain ⟨i, ns, rfl⟩ := key d hd
      refine ⟨?_, ?_⟩
      · rw [PyData.canLay0, PyData.canLayAll0, layAll_ints]; rfl
      · rw [PyData.depth, PyData.depthAll, depthAll_ints]; simp [PyData.depth]
  · simp only [Bool.and_eq_true] at h
    obtain ⟨⟨h1, h2⟩, h3⟩ := h
    refine ⟨fun d hd e he => List.all_eq_true.mp (List.all_eq_true.mp h1 d hd) e he, ?_, fun d hd => ?_⟩
    · rw [Bool.or_eq_true] at h2
      rcases h2 with h2 | h2
      · refine .inl fun d hd => ?_
        have := List.all_eq_true.mp h2 d hd
        cases d with
        | tuple ys =>
          cases ys with
          | nil => cases this
          | cons y ys => exact ⟨_, _, rfl⟩
        | _ => cases this
      · refine .inr fun d hd => ?_
        have := List.all_eq_true.mp h2 d hd
        rw [Bool.and_eq_true] at this
        refine ⟨fun z => ?_, fun ys z => ?_⟩
        · subst z; cases this.1
        · subst z; cases this.2
    · have := List.all_eq_true.mp h3 d hd
      rw [Bool.and_eq_true, decide_eq_true_eq] at this
      exact ⟨SeqAt.canLay_of_shaped this.1, this.2⟩
theorem rpa_zip {K : PySem.W.Frag} {tv : TV} {F : Fz} {H : Hp} : ∀ {vs : List V} {ds : List PD}, RpA K tv F H vs ds → ∃ zs : List (V × PD), zs.map (·.1) = vs ∧ zs.map (·.2) = ds ∧ ∀ z ∈ zs, Rp K tv F H z.1 z.2
  | _, _, .nil => ⟨[], rfl, rfl, fun _ h => by cases h⟩
  | _, _, .cons (v := v) (d := d) h t => by
    obtain ⟨zs, e1, e2, h2⟩ := rpa_zip t
    refine ⟨(v, d) :: zs, by rw [List.map_cons, e1], by rw [List.map_cons, e2], fun z hz => ?_⟩
    rcases List.mem_cons.mp hz with rfl | hz
    · exact h
    · exact h2 z hz
theorem rpa_of {K : PySem.W.Frag} {tv : TV} {F : Fz} {H : Hp} : ∀ {zs : List (V × PD)}, (∀ z ∈ zs, Rp K tv F H z.1 z.2) → RpA K tv F H (zs.map (·.1)) (zs.map (·.2))
  | [], _ => .nil
  | z :: zs, h => .cons (h z List.mem_cons_self) (rpa_of fun y hy => h y (List.mem_cons_of_mem _ hy))
theorem dataLe_total {β : Type} (k : β → PD) : TotalLe (dataLe false k) := sortLe_total _ _ _
theorem sortD_eq {zs : List (V × PD)} (hal : AllAlike (zs.map (·.2))) : (zs.mergeSort (dataLe false (·.2))).map (·.2) = sortD (zs.map (·.2)) := by
  unfold sortD
  have e := sort_maps (r := dataLe false (fun z : V × PD => z.2)) (s := dataLe false (id : PD → PD)) (fun z : V × PD => z.2) (l := zs) (fun a _ b _ => rfl)
  rw [e, ← insSort_merge (dataLe_total id)]
  refine insSort_congr fun a ha b hb => ?_
  show (!dataLt b a) = _
  rw [pLt_eq _ _ (hal b hb a ha)]
theorem bi_sorted : BiOk k X.K .sorted (rSortD X.K) := fun τ F H vs ds d Q gd r e q => by
  have fin : ∀ (xs : List PD) (a : Addr) (ys : List V), (SqL X.K H a ys ∨ SqT X.K H a ys) → RpA X.K k.tv F H ys xs → sortable xs = true → d = .list (sortD xs) → vs = [.ref a] → rSortD X.K vs H Q := fun xs a ys hS ra hz ed ev => by
    obtain ⟨zs, rfl, rfl, hp⟩ := rpa_zip ra
    obtain ⟨h1, h2, h3⟩ := sortable_ok hz
    subst ev
    refine ⟨a, zs, rfl, hS, fun z hm => (hp z hm).dp (h3 z.2 (List.mem_map_of_mem hm)).1, h1, h2, fun z hm => (h3 z.2 (List.mem_map_of_mem hm)).2, fun p hn => ?_⟩
    subst ed
    refine q _ _ (le_new (.refl _ _ _) hn) (gd_new gd hn) (frv_new (.refl _ _ _) gd hn ?_)
    rw [← sortD_eq h1]
    exact rpa_of fun z hm => hp z ((List.mergeSort_perm _ _).mem_iff.mp hm)
  unfold biD at e
  split at e
  all_goals first | contradiction | skip
  · split at e
    · rename_i hz
      cases e
      obtain ⟨v, rfl, h1⟩ := pr1 (F := F) (H := H) r
      obtain ⟨a, xs, rfl, h, ra⟩ := h1.list
      exact fin _ a xs (.inl h) ra hz rfl rfl
    · cases e
  · split at e
    · rename_i hz
      cases e
      obtain ⟨v, rfl, h1⟩ := pr1 (F := F) (H := H) r
      obtain ⟨a, xs, rfl, h, ra⟩ := h1.tuple
      exact fin _ a xs (.inr h) ra hz rfl rfl
    · cases e
  all_goals cases e

/-! ### sorted(set(xs)), tuples of ints -/
theorem of_ints {K : PySem.W.Frag} {tv : TV} {F : Fz} {H : Hp} : ∀ {ns : List Int}, RpA K tv F H (ns.map V.int) (ns.map PyData.int)
  | [] => .nil
  | n :: ns => .cons (.int n) of_ints
theorem ints_of {K : PySem.W.Frag} {tv : TV} {F : Fz} {H : Hp} : ∀ {ns : List Int} {vs : List V}, RpA K tv F H vs (ns.map PyData.int) → vs = ns.map V.int
  | [], _, .nil => rfl
  | n :: ns, _, .cons h t => by cases h; rw [ints_of t]; rfl
theorem intsOfT_go : ∀ {xs : List PD} {t : List Int}, intsOfT.go xs = some t → xs = t.map .int
  | [], t, h => by cases h; rfl
  | x :: r, t, h => by
    cases x with
    | int i =>
      rw [intsOfT.go] at h
      obtain ⟨u, e1, e2⟩ := Option.map_eq_some_iff.mp h
      subst e2
      rw [intsOfT_go e1]
      rfl
    | _ => cases h
theorem tups_rpa {K : PySem.W.Frag} {tv : TV} {F : Fz} {H : Hp} : ∀ {xs : List PD} {vs : List V} {ts : List (List Int)}, RpA K tv F H vs xs → tupsOf xs = some ts → ∃ ks : List (Addr × List Int), vs = ks.map (fun p => V.ref p.1) ∧ ks.map (·.2) = ts ∧ ∀ p ∈ ks, Tq K tv.kl H p.1 (p.2.map V.int)
  | [], _, ts, .nil, h => by cases h; exact ⟨[], rfl, rfl, fun _ h => by cases h⟩
  | x :: r, _, ts, .cons hx t, h => by
    rw [tupsOf] at h
    obtain ⟨a, e1, h⟩ := bind2 h
    obtain ⟨u, e2, e3⟩ := Option.map_eq_some_iff.mp h
    subst e3
    obtain ⟨ks, rfl, e4, h2⟩ := tups_rpa t e2
    cases x with
    | tuple ys =>
      have e5 := intsOfT_go (show intsOfT.go ys = some a from e1)
      subst e5
      cases hx with
      | tup h3 h4 =>
        rename_i p xs
        cases ints_of h4
        refine ⟨(p, a) :: ks, rfl, by rw [List.map_cons, e4], fun z hz => ?_⟩
        rcases List.mem_cons.mp hz with rfl | hz
        · exact h3
        · exact h2 z hz
    | _ => cases e1
theorem dedup_mem : ∀ {l : List (List Int)} {x : List Int}, x ∈ dedup l ↔ x ∈ l
  | [], x => Iff.rfl
  | y :: r, x => by
    rw [dedup]
    split
    · rename_i h
      rw [dedup_mem, List.mem_cons]
      refine ⟨.inr, fun z => z.elim (fun e => ?_) id⟩
      subst e
      exact List.elem_iff.mp h
    · rw [List.mem_cons, List.mem_cons, dedup_mem]
theorem dedup_nodup : ∀ l : List (List Int), (dedup l).Nodup
  | [] => .nil
  | y :: r => by
    rw [dedup]
    split
    · exact dedup_nodup r
    · rename_i h
      exact List.nodup_cons.mpr ⟨fun z => h (List.elem_iff.mpr (dedup_mem.mp z)), dedup_nodup r⟩
theorem code_inj {B : Int} : ∀ {a b : List Int}, a.length = b.length → TS.Bd B a → TS.Bd B b → TS.code B a = TS.code B b → a = b
  | [], [], _, _, _, _ => rfl
  | [], _ :: _, h, _, _, _ => by cases h
  | _ :: _, [], h, _, _, _ => by cases h
  | x :: xs, y :: ys, h, h1, h2, e => by
    have hl : xs.length = ys.length := by simpa using h
    rcases Int.lt_trichotomy x y with c | c | c
    · have := TS.code_lt hl h1.tail h2.tail c
      omega
    · subst c
      have e2 : TS.code B xs = TS.code B ys := by
        rcases Int.lt_trichotomy (TS.code B xs) (TS.code B ys) with z | z | z
        · have := (TS.code_same (d := x) hl).mpr z
          omega
        · exact z
        · have := (TS.code_same (d := x) hl.symm).mpr z
          omega
      rw [code_inj hl h1.tail h2.tail e2]
    · have := TS.code_lt hl.symm h2.tail h1.tail c
      omega
theorem ite_some {α : Type} {c : Bool} {a b : α} (h : (if c = true then some a else none) = some b) : c = true ∧ a = b := by
  cases c with
  | true => rw [if_pos rfl] at h; exact ⟨rfl, Option.some.inj h⟩
  | false => rw [if_neg Bool.false_ne_true] at h; cases h
theorem rf_ss {t : TE} {m : E} (h : RB k g X t m) : RF k g X (tCB (rSortedT X.K X.prog X.w) (tCons (tCB (rSetOfT X.K X.prog X.w) (tCons t tNil)) tNil)) (.ss m) := fun H0 ρ τ σ F H d τ' Q ok gd e q => by
  rw [ev] at e
  obtain ⟨⟨x, τ1⟩, e1, e⟩ := bind2 e
  cases x with
  | list xs =>
    obtain ⟨ys, e2, e3⟩ := Option.map_eq_some_iff.mp e
    cases e3
    refine h H0 ρ τ σ F H _ _ _ ok gd e1 fun v F1 H1 l1 g1 r1 => ?_
    obtain ⟨l, vs, rfl, hl, ra⟩ := r1.list
    unfold sortSet at e2
    obtain ⟨ts, e4, e2⟩ := bind2 e2
    obtain ⟨hc, e2'⟩ := ite_some e2
    subst e2'
    rw [Bool.and_eq_true, Bool.and_eq_true, decide_eq_true_eq] at hc
    obtain ⟨⟨c1, c2⟩, c3⟩ := hc
    obtain ⟨ks, rfl, hks, hT⟩ := tups_rpa ra e4
    have hB : ∀ u ∈ ts, TS.Bd (bdOf ts) u := fun u hu i hi => by
      have := List.all_eq_true.mp (List.all_eq_true.mp c3 u hu) i hi
      rw [Bool.and_eq_true, decide_eq_true_eq, decide_eq_true_eq] at this
      exact this
    obtain ⟨dd, hd1, hd2⟩ : ∃ dd : Nat, 1 ≤ dd ∧ ∀ u ∈ ts, u.length = dd := by
      cases ts with
      | nil => exact ⟨1, Nat.le_refl _, fun u hu => by cases hu⟩
      | cons t0 ts =>
        simp only [Bool.and_eq_true, decide_eq_true_eq] at c2
        exact ⟨t0.length, c2.1, fun u hu => of_decide_eq_true (List.all_eq_true.mp c2.2 u hu)⟩
    refine ⟨l, ks, rfl, hl, fun p hp => (hT p hp).sq, by rw [← List.length_map (f := (·.2)), hks]; exact c1, fun a L ha hsub hall => ?_⟩
    have mem : ∀ p ∈ L, p.2 ∈ ts := fun p hp => by rw [← hks]; exact List.mem_map_of_mem (hsub p hp)
    have l2 := le_new (k := k) (F := F) (F1 := F1) l1 ha (o := SetTO X.prog X.w a L)
    have g2 := gd_new g1 ha (o := SetTO X.prog X.w a L)
    have up : ∀ p ∈ L, Tq X.K k.tv.kl (upd H1 a (SetTO X.prog X.w a L)) p.1 (p.2.map V.int) := fun p hp => Tq.lw ((le_new (k := k) (.refl _ _ _) ha).lw g1) (hT p (hsub p hp))
    refine ⟨a, L, dd, bdOf ts, rfl, upd_same, fun p hp => (up p hp).sq, hd1, fun p hp => ⟨hd2 _ (mem p hp), hB _ (mem p hp)⟩, fun L' p hpm hnd h64 hpw hp => ?_⟩
    have memL : ∀ u, u ∈ L'.map (·.2) ↔ u ∈ ts := fun u => by
      rw [(hpm.map (·.2)).mem_iff]
      refine ⟨fun hu => ?_, fun hu => ?_⟩
      · obtain ⟨z, hz, rfl⟩ := List.mem_map.mp hu
        exact mem z hz
      · rw [← hks] at hu
        obtain ⟨z, hz, rfl⟩ := List.mem_map.mp hu
        exact hall z hz
    have pm : (L'.map (·.2)).Perm (insSort (fun a b => decide (TS.code (bdOf ts) a ≤ TS.code (bdOf ts) b)) (dedup ts)) := by
      refine List.Perm.trans ?_ (insSort_perm _).symm
      exact (List.perm_ext_iff_of_nodup hnd (dedup_nodup ts)).mpr fun u => by rw [memL, dedup_mem]
    have tot : TotalLe fun a b : List Int => decide (TS.code (bdOf ts) a ≤ TS.code (bdOf ts) b) :=
      ⟨fun a b c h1 h2 => decide_eq_true (Int.le_trans (of_decide_eq_true h1) (of_decide_eq_true h2)), fun a b => (Int.le_total _ _).imp decide_eq_true decide_eq_true⟩
    have eq : L'.map (·.2) = insSort (fun a b => decide (TS.code (bdOf ts) a ≤ TS.code (bdOf ts) b)) (dedup ts) := by
      refine pm.eq_of_pairwise (le := fun a b => TS.code (bdOf ts) a ≤ TS.code (bdOf ts) b) (fun u v hu hv h1 h2 => ?_) (List.pairwise_map.mpr hpw) ?_
      · have m1 := (memL u).mp hu
        have m2 := (memL v).mp (pm.mem_iff.mpr hv)
        exact code_inj ((hd2 u m1).trans (hd2 v m2).symm) (hB u m1) (hB v m2) (Int.le_antisymm h1 h2)
      · exact (insSort_pw tot _).imp fun h => of_decide_eq_true h
    refine q _ F1 _ (le_new l2 hp) (gd_new g2 hp) (frv_new l2 g2 hp ?_)
    rw [← eq]
    have all : ∀ z ∈ L', Rp X.K k.tv F1 (upd H1 a (SetTO X.prog X.w a L)) (.ref z.1) (.tuple (z.2.map .int)) := fun z hz => .tup (up z (hpm.mem_iff.mp hz)) of_ints
    clear eq pm memL hpw hnd hpm h64
    induction L' with
    | nil => exact .nil
    | cons z L' ih => exact .cons (all z List.mem_cons_self) (ih fun y hy => all y (List.mem_cons_of_mem _ hy))
  | _ => cases e
theorem se_ss {x y : Str} {p p2 q pos : Pos} {e : Expr} {m : E} (G : GOk k g tb lv X) (hx : x = "sorted") (hy : y = "set") (hg : Gl X x) (hg2 : Gl X y) (hb : x ∈ tb.bl) (hb2 : y ∈ tb.bl) (hn : nst e = true) (h : SE k g X e m) :
    SE k g X (.Call (.Name x p) [.Call (.Name y p2) [e] [] q] [] pos) (.ss m) := by
  subst hx; subst hy
  obtain ⟨t, pe, _, b, _⟩ := h.ex
  have hu := G.hu
  exact .ofF (pe_callB (cr_sortedT G.calm) hg (G.blt _ hb) (by decide +kernel) (pa_cons (pe_callTy (cr_setOfT G.calm (by omega)) hg2 (G.blt _ hb2) (by decide +kernel) (pa_cons pe pa_nil (star_cons hn)) (by decide) (by decide) (star_cons hn) (star_any rfl)) pa_nil) (by decide) (by decide) (star_cons rfl) (star_any rfl)) (rf_ss b)
end
end Fh
/-! len(set(xs)), xs a list of texts. -/
namespace Fh
open PySem PySem.Spec PyProof.Rows L2

def metS (xs : List Str) (i : Nat) : List Str := dedS (xs.take i)
theorem metS_le (xs : List Str) : ∀ i, (metS xs i).length ≤ i := fun i => by
  have key : ∀ (l acc : List Str), (l.foldl addS acc).length ≤ acc.length + l.length := by
    intro l
    induction l with
    | nil => intro acc; simp
    | cons x l ih =>
      intro acc
      rw [List.foldl_cons]
      refine Nat.le_trans (ih _) ?_
      unfold addS
      split <;> simp <;> omega
  have := key (xs.take i) []
  rw [List.length_take] at this
  show (dedS (xs.take i)).length ≤ i
  unfold dedS
  simp at this
  omega
theorem metS_succ {xs : List Str} {i : Nat} (h : i < xs.length) : metS xs (i + 1) = addS (metS xs i) xs[i] := by
  unfold metS dedS
  rw [List.take_add_one, List.getElem?_eq_getElem h, List.foldl_append]
  rfl
section
variable {prog : Program} {w : World} {A : Around} {R : Result → Shared → Prop} {I : Addr} {fp wr : List Addr} {G : Array GenState → Array GenState → Prop} {n : Nat} {P : Nat → Value → Prop} {St : Nat → Shared → Prop}
theorem loopTexts (W : WalksS prog w A.in1 I fp wr G n P St) (S : Addr) (hSf : S ∉ fp) (xs : List Str) (hsz : xs.length = n) (hn1 : n + 1 < scanBound)
    (hval : ∀ i v, P i v → ∃ t, v = .str (xs.getD i Str.empty) t) :
    ∀ (k i : Nat) (s : Shared), n - i = k → i ≤ n → St i s →
      s.heap.SetOf (PySem.strKind prog w) S (fun k' => decide (k' ∈ metS xs i)) (metS xs i).length →
      (∀ s', Moved (S :: wr) G s s' → s'.heap.SetOf (PySem.strKind prog w) S (fun k' => decide (k' ∈ metS xs n)) (metS xs n).length → R (.ok (.ret .none)) s') →
      codeAny (model prog w) A (.builtin "set.update.loop" ⟨[.ref S, .ref I], []⟩) R s := by
  have hSw : S ∉ wr := fun h => hSf (W.sub _ h)
  have hsub : ∀ b ∈ wr, b ∈ S :: wr := fun b hb => List.mem_cons_of_mem _ hb
  intro k
  induction k with
  | zero =>
    intro i s hk hi hst hS hR
    have hin : i = n := by omega
    subst hin
    refine codeAny_builtin PyProof.Rows.F.entry_set_update_loop ?_
    rw [Around.under_plainId PyProof.Rows.F.plain_set_update_loop _]
    show wpAny _ A.in1 (pyNext (.ref I) >>= _) _ _ s
    refine wpAny_bind (W.done s _ _ hst fun s' hm => ?_)
    show wpAny _ A.in1 (ret Value.none) _ _ s'
    exact wpAny_pure (hR s' (hm.mono hsub) (by
      obtain ⟨o, es, ep, t, ho, rest⟩ := hS
      exact ⟨o, es, ep, t, hm.heap S _ hSw ho, rest⟩))
  | succ k ih =>
    intro i s hk hi hst hS hR
    have hlt : i < n := by omega
    have hlx : i < xs.length := by omega
    have hgd : xs.getD i Str.empty = xs[i] := by rw [List.getD_eq_getElem?_getD, List.getElem?_eq_getElem hlx]; rfl
    refine codeAny_builtin PyProof.Rows.F.entry_set_update_loop ?_
    rw [Around.under_plainId PyProof.Rows.F.plain_set_update_loop _]
    show wpAny _ A.in1 (pyNext (.ref I) >>= _) _ _ s
    refine wpAny_bind (W.item i s _ _ hlt hst fun v s' hP hst' hm => ?_)
    obtain ⟨t, rfl⟩ := hval i v hP
    have hS' : s'.heap.SetOf (PySem.strKind prog w) S (fun k' => decide (k' ∈ metS xs i)) (metS xs i).length := by
      obtain ⟨o, es, ep, tb, ho, rest⟩ := hS
      exact ⟨o, es, ep, tb, hm.heap S _ hSw ho, rest⟩
    show wpAny _ A.in1 (holding [Value.str (xs.getD i Str.empty) t] (setAdd S (.str (xs.getD i Str.empty) t)) >>= _) _ _ s'
    refine wpAny_bind (wpAny_holding ?_)
    unfold setAdd
    refine wpAny_holding ?_
    refine wpAny_bind ((PySem.strKind prog w).pyHash (k := xs.getD i Str.empty) (strKind_is _ _ _ _) ?_)
    have hle := metS_le xs i
    refine wpAny_setAddHashed_of (knd := PySem.strKind prog w) (s := { s' with toks := s'.toks + 1 }) (strKind_is _ _ _ _) rfl hS' (by omega) fun h' hsb hS2 => ?_
    have hSi : h'.SetOf (PySem.strKind prog w) S (fun k' => decide (k' ∈ metS xs (i + 1))) (metS xs (i + 1)).length := by
      refine SetOf_congr hS2 (fun k' => ?_) ?_
      · rw [hgd, metS_succ hlx]
        unfold addS
        by_cases e : xs[i] ∈ metS xs i
        · rw [if_pos e]
          by_cases e2 : k' = xs[i]
          · subst e2; simp [e]
          · simp [e2]
        · rw [if_neg e]
          by_cases e2 : k' = xs[i]
          · subst e2; simp
          · simp [e2]
      · rw [hgd, metS_succ hlx]
        unfold addS
        by_cases e : xs[i] ∈ metS xs i
        · rw [if_pos e, if_pos (decide_eq_true e)]
        · rw [if_neg e, if_neg (by simp [e])]
          simp
    refine wpAny_pure ⟨plainId_quiet PyProof.Rows.F.plain_set_update_loop _, ih (i + 1) _ (by omega) hlt (W.frame _ s' _ _ hst' (Nat.le_succ _) fun b hb o e => ?_) hSi fun s'' hm'' hS'' => ?_⟩
    · rw [hsb.2 b (fun h : b = S => hSf (by rw [← h]; exact hb))]; exact e
    · refine hR s'' (Moved.trans W.gtrans ((hm.mono hsub).then_heap (Nat.le_succ _) fun b o hb e => ?_) hm'') hS''
      rw [hsb.2 b (fun h : b = S => hb (by rw [h]; exact List.mem_cons_self))]; exact e
end
section
variable {prog : Program} {w : World} {A : Around} {E : Value → Shared → Prop} {s : Shared}
set_option maxHeartbeats 3200000 in
theorem call_set_texts {l : Addr} {items : Array Value} {xs : List Str} {Q : Value → Shared → Prop}
    (hh : A.handled = none) (hl : s.heap.IsList l items) (hi : PyProof.Rows.StrsAre items.toList xs) (hn1 : xs.length + 1 < scanBound)
    (h : ∀ (h' : Heap) (tk : Nat), h'.SetOf (PySem.strKind prog w) s.heap.objs.size (fun k' => decide (k' ∈ dedS xs)) (dedS xs).length →
      (∀ b o, b < s.heap.objs.size → s.heap.get? b = some o → h'.get? b = some o) → Q (.ref s.heap.objs.size) { s with heap := h', toks := tk }) :
    wpAny (model prog w) A (call (.type "set") [.ref l]) Q E s := by
  obtain ⟨c, tl, hmro⟩ := PySem.F.called_set.mro
  have hmade := PySem.F.called_set.made
  have hsub := PySem.F.called_set.sub
  have hsz : xs.length = items.size := by rw [← StrsAre.len_eq hi, Array.length_toList]
  refine wpAny_call (codeAny_of_tree ?_)
  show wpAny _ _ (callAny (.type "set") _) _ _ _
  refine wpAny_pure ⟨Code.quiet_builtin _ (by decide +kernel), codeAny_builtin PySem.F.entry_type_call ?_⟩
  rw [Around.under_plain (weight_type_call_type "set" [.ref l] []) rfl]
  have h1 := PySem.F.called_set.notType
  have h2 := PySem.F.called_set.canCreate
  have hct := PySem.F.typeCall_set_1 (.ref l)
  repeat (any_goals (first | assumption | wp_step))
  refine codeAny_mono (code_set_new_1 (.ref l) (E := E) (Q₁ := fun obj s₁ => ∃ led : Bool, obj = .ref s.heap.objs.size ∧ s₁ = { s with heap := s.heap.push { cls := .type "set", dict := none, data := .set #[] 0 (.fresh 0 0 led) } }) fun led => ⟨led, rfl, rfl⟩) fun r s₁ hr => ?_
  cases r with
  | error e => exact hr
  | ok fl =>
    cases fl with
    | ret obj =>
      obtain ⟨led, rfl, rfl⟩ := hr
      have hS : (s.heap.push { cls := .type "set", dict := none, data := .set #[] 0 (.fresh 0 0 led) }).get? s.heap.objs.size = some { cls := .type "set", dict := none, data := .set #[] 0 (.fresh 0 0 led) } := Heap.get?_push_size _ rfl
      have hT : Shared.TypeIs { s with heap := s.heap.push { cls := .type "set", dict := none, data := .set #[] 0 (.fresh 0 0 led) } } (.ref s.heap.objs.size) "set" := ⟨_, hS, rfl⟩
      have hli := PySem.F.called_set.init.lookup
      have hbi := PySem.F.called_set.init.bind (.ref s.heap.objs.size)
      repeat (any_goals (first | assumption | wp_step))
      refine codeAny_mono (codeAny_call_builtin (R := wants (fun r s₂ => r = .none ∧ ∃ h' tk, s₂ = { s with heap := h', toks := tk } ∧
          h'.SetOf (PySem.strKind prog w) s.heap.objs.size (fun k' => decide (k' ∈ dedS xs)) (dedS xs).length ∧
          (∀ b o, b < s.heap.objs.size → s.heap.get? b = some o → h'.get? b = some o)) E) PySem.F.called_set.init.plain PySem.F.entry_set_init (check_set_init_1 hT ?_)) fun r₂ s₂ hr₂ => ?_
      · obtain ⟨ol, hol, hcl, nl, hdl⟩ := hl
        obtain ⟨ocls, odict, odata, oslots⟩ := ol
        simp only at hcl hdl
        subst hcl; subst hdl
        have hol' : (s.heap.push { cls := .type "set", dict := none, data := .set #[] 0 (.fresh 0 0 led) }).get? l = some { cls := .type "list", dict := odict, data := .seq items nl, slots := oslots } := Heap.get?_push_of_some _ hol
        have hsls := PySem.F.sub_list_set
        have hslf := PySem.F.sub_list_frozenset
        have hne : (Value.type "list" == Value.type "dict") = false := by decide
        have hl1 : (s.heap.push { cls := .type "set", dict := none, data := .set #[] 0 (.fresh 0 0 led) }).IsList l items := ⟨_, hol', rfl, nl, rfl⟩
        unfold Builtin.«set.__init__» noKeywords Builtin.Frozenset.updateFrom
        generalize hPI : pyIter = PI
        wp_walk
        subst hPI
        refine wpAny_pyIter_list hl1 ?_
        refine wpAny_bind (wpAny_runValue ?_)
        have hlS : l < s.heap.objs.size := Heap.lt_size hol
        have hh3 : A.in1.in1.in1.handled = none := by simp [hh]
        have hneI : l ≠ (s.heap.push { cls := .type "set", dict := none, data := .set #[] 0 (.fresh 0 0 led) }).objs.size := by
          rw [Heap.size_push]; exact Nat.ne_of_lt (Nat.lt_succ_of_lt hlS)
        have hSf : s.heap.objs.size ∉ [(s.heap.push { cls := .type "set", dict := none, data := .set #[] 0 (.fresh 0 0 led) }).objs.size, l] := by
          rw [Heap.size_push]; simp only [List.mem_cons, List.mem_singleton, List.not_mem_nil, or_false, not_or]
          exact ⟨Nat.ne_of_lt (Nat.lt_succ_self _), Nat.ne_of_gt hlS⟩
        have hval : ∀ (i : Nat) (v : Value), items[i]? = some v → ∃ t, v = .str (xs.getD i Str.empty) t := fun i v hv => SS.strs_at hi i v (by rw [Array.getElem?_toList]; exact hv)
        refine loopTexts ((Walks.list hh3 _ l hneI items).toS) s.heap.objs.size
          hSf xs hsz (by rw [← hsz]; exact hn1) hval (items.size - 0) 0 _ (by omega) (Nat.zero_le _)
          ⟨⟨_, Heap.get?_push_size _ rfl, rfl, rfl⟩, (hl1.push _)⟩ ?hS0 ?hR
        case hS0 =>
          have hget : ((s.heap.push { cls := .type "set", dict := none, data := .set #[] 0 (.fresh 0 0 led) }).push { cls := .type "list_iterator", data := .fields #[.ref l, .int 0 0] }).get? s.heap.objs.size
              = some { cls := .type "set", dict := none, data := .set #[] 0 (.fresh 0 0 led) } := Heap.get?_push_of_some _ hS
          exact PyProof.Rows.SetOf_congr ((PyProof.Rows.setObjOf_fresh (knd := PySem.strKind prog w) led).setOf hget (by unfold scanBound; omega)) (fun _ => rfl) rfl
        case hR =>
          intro s' hm hS'
          have eall : metS xs items.size = dedS xs := by unfold metS; rw [List.take_of_length_le (by omega)]
          rw [eall] at hS'
          obtain ⟨h', g', d', tk', os'⟩ := s'
          have eg : g' = s.gens := hm.gens
          have ed : d' = s.drawn := hm.drawn
          have eo : os' = s.os := hm.os
          subst eg; subst ed; subst eo
          show wpAny _ _ _ _ _ _
          refine wpAny_pure ?_
          show wpAny _ _ (ret Value.none) _ _ _
          refine wpAny_pure ⟨rfl, h', tk', rfl, hS', fun b o hb e => ?_⟩
          have hb1 : b ≠ s.heap.objs.size := Nat.ne_of_lt hb
          have hb2 : b ≠ (s.heap.push { cls := .type "set", dict := none, data := .set #[] 0 (.fresh 0 0 led) }).objs.size := by
            rw [Heap.size_push]; exact Nat.ne_of_lt (Nat.lt_succ_of_lt hb)
          exact hm.heap b o (by simp only [List.mem_cons, List.mem_singleton, List.not_mem_nil, or_false, not_or]; exact ⟨hb1, hb2⟩) (Heap.get?_push_of_some _ (Heap.get?_push_of_some _ e))
      · cases r₂ with
        | error e => exact hr₂
        | ok fl₂ =>
          cases fl₂ with
          | ret r =>
            obtain ⟨rfl, h', tk, rfl, hS', hk'⟩ := hr₂
            repeat (any_goals (first | assumption | wp_step))
            exact h _ _ hS' hk'
          | _ => exact hr₂.elim
    | _ => exact hr.elim
end
section
variable {X : Cx}
/-- len(set(xs)), xs a list of texts -/
def tLenTexts (K : PySem.W.Frag) (ta : TE) : TE := fun σ H Q => ta σ H fun x H1 => ∃ l, ∃ xs : List Str, x = .ref l ∧ SqL K H1 l (xs.map V.str) ∧ xs.length ≤ 1000 ∧ Q (.int (dedS xs).length) H1
theorem pe_lenTexts {a : Expr} {ta : TE} {p p2 q pos : Pos} (hc : X.calm = true) (hg : Gl X "len") (hm : X.mg "len" = none) (hg2 : Gl X "set") (hm2 : X.mg "set" = none) (ha : PE X a ta)
    (na : starEach [a] X.env = (false, eval a X.env) :: starEach [] X.env := by rfl) : PE X (.Call (.Name "len" p) [.Call (.Name "set" p2) [a] [] q] [] pos) (tLenTexts X.K ta) := by
  refine ⟨fun pins s σ H Q I h => ?_⟩
  refine Call_ (ld_blt I hg hm boot_len ?_)
  refine PyProof.Rows.callWith_builtin1 (PyProof.Rows.args_cons ?_ rfl) rfl rfl
  refine Call_ (ld_blt I hg2 hm2 boot_set ?_)
  refine PyProof.Rows.callWith_type1 (PyProof.Rows.args_cons (thn (ha.run pins s σ H _ I h) fun v s1 ⟨x, H1, I1, r1, q1⟩ => PyProof.Rows.args_nil ?_) na) na rfl
  obtain ⟨l, xs, rfl, hq, h1, q1⟩ := q1
  cases r1
  obtain ⟨its, r, pl, hz⟩ := I1.list hq
  refine call_set_texts (I1.ok.hd hc) pl.isList (by simpa using strsAre_of r) (by unfold scanBound; omega) fun h' tk hS hk => ?_
  refine PyProof.Rows.args_nil ?_
  obtain ⟨o, es, ep, t, ho, hex, hd, _, _, _, hf, hn⟩ := hS
  have I2 : Inv X pins σ H1 { s1 with heap := h', toks := tk } := I1.kept fun b o e => hk b o (Heap.lt_size e) e
  have hle := metS_le xs xs.length
  unfold metS at hle
  rw [List.take_length] at hle
  exact call_len_set ho hex hd hf (by rw [hn]; omega) ⟨.int (dedS xs).length, H1, I2.tok _, ⟨_, by rw [hn]⟩, q1⟩
end
theorem strsS_rpa {K : PySem.W.Frag} {tv : TV} {F : Fz} {H : Hp} : ∀ {xs : List PD} {vs : List V} {ss : List Str}, RpA K tv F H vs xs → strsOf xs = some ss → vs = ss.map V.str
  | [], _, _, .nil, h => by cases h; rfl
  | x :: r, _, ss, .cons hx t, h => by
    cases x with
    | str a =>
      rw [strsOf] at h
      obtain ⟨u, e2, e3⟩ := Option.map_eq_some_iff.mp h
      subst e3
      rw [strsS_rpa t e2]
      cases hx
      rfl
    | _ => cases h
section
variable {T : Type} {k : Tk T} {g : Glob T} {X : Cx}
theorem rx_ls {t : TE} {m : E} (h : RB k g X t m) : RX k g X (tLenTexts X.K t) (.ls m) := fun H0 ρ τ σ F H d τ' Q ok gd e q => by
  rw [ev] at e
  obtain ⟨⟨x, τ1⟩, e1, e⟩ := bind2 e
  cases x with
  | list xs =>
    obtain ⟨ss, e2, e3⟩ := bind2 e
    obtain ⟨hc, e4⟩ := ite_some e3
    cases e4
    refine h H0 ρ τ σ F H _ _ _ ok gd e1 fun v F1 H1 l1 g1 r1 => ?_
    obtain ⟨l, vs, rfl, hl, ra⟩ := r1.list
    cases strsS_rpa ra e2
    exact ⟨l, ss, rfl, hl, of_decide_eq_true hc, q _ F1 _ l1 g1 (.int _)⟩
  | _ => cases e
end
section
variable {T : Type} {k : Tk T} {g : Glob T} {tb : Tb} {lv : Nat} {X : Cx}
theorem se_ls {x y : Str} {p p2 q pos : Pos} {e : Expr} {m : E} (G : GOk k g tb lv X) (hx : x = "len") (hy : y = "set") (hg : Gl X x) (hg2 : Gl X y) (hb : x ∈ tb.bl) (hb2 : y ∈ tb.bl) (hn : nst e = true) (h : SE k g X e m) :
    SE k g X (.Call (.Name x p) [.Call (.Name y p2) [e] [] q] [] pos) (.ls m) := by
  subst hx; subst hy
  obtain ⟨t, pe, _, b, _⟩ := h.ex
  exact .ofX (pe_lenTexts G.calm hg (G.blt _ hb) hg2 (G.blt _ hb2) pe (star_cons hn)) (rx_ls b) rfl
end
end Fh
/-! least and greatest of data; displays; texts -/
namespace Fh
open PySem L2 PyProof.Rows

section
open PySem.W PySem.Calls
variable {prog : Program} {w : World} {A : Around} {E : Value → Shared → Prop} {s : Shared}
theorem best_at (f : PyData → PyData → Bool) (x : PyData) (xs : List PyData) : (x :: xs).getD (argBest (fun i j => f ((x :: xs).getD i .none) ((x :: xs).getD j .none)) xs.length) .none = xs.foldl (fun a y => if f y a then y else a) x := by
  have e2 := (argBest_fold f PyData.none x xs xs.length (Nat.le_refl _)).2
  rw [List.take_length] at e2
  exact e2
theorem min_list_at {l : Addr} {vs : Array Value} {x : PyData} {xs : List PyData} {as : List Addr} {Q : Value → Shared → Prop} (hh : A.handled = none) (hl : s.heap.IsList l vs) (hr : ReadsAll s.heap vs.toList (x :: xs) as) (ha : AlikeAll (x :: xs)) (hu : A.units + 1 + PyData.depthAll (x :: xs) < cLine)
    (h : ∀ (i : Nat) v h' tk, vs[i]? = some v → (x :: xs).getD i .none = minD x xs → (∀ b o, s.heap.get? b = some o → h'.get? b = some o) → Q v { s with heap := h', toks := tk }) :
    wpAny (model prog w) A (call (.builtin "min") [.ref l]) Q E s := by
  have hn : vs.size = xs.length + 1 := readsAll_len hr
  refine call_min_walkH (iter_listW (A := A.in1) hh hl fun s₂ e W st hfp hw hk => ?_)
  refine ⟨_, _, _, _, _, _, _, s.heap, _, rfl, W, st, hfp, by omega, hw, hk, cmpIn_lt (A := A.in1) hr ha (by show A.units + 1 + _ < _; exact hu), fun v s' hP m => ?_⟩
  obtain ⟨h', tk, rfl, hk'⟩ := moved_old e rfl m
  have e1 : vs.size - 1 = xs.length := by omega
  rw [e1] at hP
  exact h _ v h' tk hP (best_at dataLt x xs) hk'
theorem max_list_at {l : Addr} {vs : Array Value} {x : PyData} {xs : List PyData} {as : List Addr} {Q : Value → Shared → Prop} (hh : A.handled = none) (hl : s.heap.IsList l vs) (hr : ReadsAll s.heap vs.toList (x :: xs) as) (ha : AlikeAll (x :: xs)) (hu : A.units + 1 + PyData.depthAll (x :: xs) < cLine)
    (h : ∀ (i : Nat) v h' tk, vs[i]? = some v → (x :: xs).getD i .none = maxD x xs → (∀ b o, s.heap.get? b = some o → h'.get? b = some o) → Q v { s with heap := h', toks := tk }) :
    wpAny (model prog w) A (call (.builtin "max") [.ref l]) Q E s := by
  have hn : vs.size = xs.length + 1 := readsAll_len hr
  refine call_max_walkH (iter_listW (A := A.in1) hh hl fun s₂ e W st hfp hw hk => ?_)
  refine ⟨_, _, _, _, _, _, _, s.heap, _, rfl, W, st, hfp, by omega, hw, hk, cmpIn_gt (A := A.in1) hr ha (by show A.units + 1 + _ < _; exact hu), fun v s' hP m => ?_⟩
  obtain ⟨h', tk, rfl, hk'⟩ := moved_old e rfl m
  have e1 : vs.size - 1 = xs.length := by omega
  rw [e1] at hP
  exact h _ v h' tk hP (best_at (fun a b => dataLt b a) x xs) hk'
theorem min_tup_at {l : Addr} {vs : Array Value} {x : PyData} {xs : List PyData} {as : List Addr} {Q : Value → Shared → Prop} (hh : A.handled = none) (hl : s.heap.IsTuple l vs) (hr : ReadsAll s.heap vs.toList (x :: xs) as) (ha : AlikeAll (x :: xs)) (hu : A.units + 1 + PyData.depthAll (x :: xs) < cLine)
    (h : ∀ (i : Nat) v h' tk, vs[i]? = some v → (x :: xs).getD i .none = minD x xs → (∀ b o, s.heap.get? b = some o → h'.get? b = some o) → Q v { s with heap := h', toks := tk }) :
    wpAny (model prog w) A (call (.builtin "min") [.ref l]) Q E s := by
  have hn : vs.size = xs.length + 1 := readsAll_len hr
  refine call_min_walkH (iter_tupleW (A := A.in1) hh hl fun s₂ e W st hfp hw hk => ?_)
  refine ⟨_, _, _, _, _, _, _, s.heap, _, rfl, W, st, hfp, by omega, hw, hk, cmpIn_lt (A := A.in1) hr ha (by show A.units + 1 + _ < _; exact hu), fun v s' hP m => ?_⟩
  obtain ⟨h', tk, rfl, hk'⟩ := moved_old e rfl m
  have e1 : vs.size - 1 = xs.length := by omega
  rw [e1] at hP
  exact h _ v h' tk hP (best_at dataLt x xs) hk'
theorem max_tup_at {l : Addr} {vs : Array Value} {x : PyData} {xs : List PyData} {as : List Addr} {Q : Value → Shared → Prop} (hh : A.handled = none) (hl : s.heap.IsTuple l vs) (hr : ReadsAll s.heap vs.toList (x :: xs) as) (ha : AlikeAll (x :: xs)) (hu : A.units + 1 + PyData.depthAll (x :: xs) < cLine)
    (h : ∀ (i : Nat) v h' tk, vs[i]? = some v → (x :: xs).getD i .none = maxD x xs → (∀ b o, s.heap.get? b = some o → h'.get? b = some o) → Q v { s with heap := h', toks := tk }) :
    wpAny (model prog w) A (call (.builtin "max") [.ref l]) Q E s := by
  have hn : vs.size = xs.length + 1 := readsAll_len hr
  refine call_max_walkH (iter_tupleW (A := A.in1) hh hl fun s₂ e W st hfp hw hk => ?_)
  refine ⟨_, _, _, _, _, _, _, s.heap, _, rfl, W, st, hfp, by omega, hw, hk, cmpIn_gt (A := A.in1) hr ha (by show A.units + 1 + _ < _; exact hu), fun v s' hP m => ?_⟩
  obtain ⟨h', tk, rfl, hk'⟩ := moved_old e rfl m
  have e1 : vs.size - 1 = xs.length := by omega
  rw [e1] at hP
  exact h _ v h' tk hP (best_at (fun a b => dataLt b a) x xs) hk'
/-- min(a, b) of two data -/
theorem min_two_at {a b : Value} {x y : PyData} {as : List Addr} {Q : Value → Shared → Prop} (hh : A.handled = none) (hr : ReadsAll s.heap [a, b] [x, y] as) (ha : AlikeAll [x, y]) (hu : A.units + 1 + PyData.depthAll [x, y] < cLine)
    (h : ∀ (i : Nat) v h' tk, [a, b][i]? = some v → [x, y].getD i .none = minD x [y] → (∀ b o, s.heap.get? b = some o → h'.get? b = some o) → Q v { s with heap := h', toks := tk }) :
    wpAny (model prog w) A (call (.builtin "min") [a, b]) Q E s := by
  have hname : (toString "min" ++ toString ".loop" : String) = "min.loop" := by decide
  refine call_function_tree F.kind_min F.plain_min F.entry_min (F.args_min2 _ _) ?_
  show wpAny _ A.in1 (Builtin.Builtins.bindParams "min" ["key", "default"] 0 ⟨[], []⟩ >>= _) _ _ s
  refine wpAny_bind (wpAny_of_eq (show Builtin.Builtins.bindParams "min" ["key", "default"] 0 ⟨[], []⟩ = pure [none, none] from rfl) ?_)
  show wpAny _ A.in1 (newTuple [a, b] >>= _) _ _ s
  refine wpAny_bind (wpAny_newObj_type ?_)
  have hT : (s.heap.push { cls := .type "tuple", data := .seq #[a, b] }).IsTuple s.heap.objs.size #[a, b] := ⟨_, Heap.get?_push_size _ rfl, rfl, 0, rfl⟩
  have k0 : ∀ c o, s.heap.get? c = some o → (s.heap.push { cls := .type "tuple", data := .seq #[a, b] }).get? c = some o := fun c o e => Heap.get?_push_of_some _ e
  refine wpAny_bind (wpAny_mono (iter_tupleW (s := { s with heap := s.heap.push { cls := .type "tuple", data := .seq #[a, b] } }) (A := A.in1) (E := E) (Q := fun it s₂ => ∃ I fp wr G n P St H bt, it = .ref I ∧ WalksS prog w A.in1 I fp wr G n P St ∧ St 0 s₂ ∧ (∀ b ∈ fp, b < s₂.heap.objs.size) ∧ 0 < n ∧
      (∀ b o, H.get? b = some o → b ∉ wr) ∧ (∀ b o, H.get? b = some o → s₂.heap.get? b = some o) ∧ CmpIn prog w A.in1 .Lt H P bt ∧ ∀ v s', P (argBest bt (n - 1)) v → Moved wr G s₂ s' → Q v s') hh hT fun s₂ e W st hfp hw hk => ?_) (fun it s₂ h₂ => ?_) fun _ _ e => e)
  · refine ⟨_, _, _, _, _, _, _, s.heap, _, rfl, W, st, hfp, by simp, fun c o ec => hw c o (k0 c o ec), fun c o ec => hk c o (k0 c o ec), cmpIn_lt (A := A.in1) (vs := #[a, b]) hr ha (by show A.units + 1 + _ < _; exact hu), fun v s' hP m => ?_⟩
    obtain ⟨h', tk, rfl, hk'⟩ := moved_old e rfl m
    exact h _ v h' tk (by simpa using hP) (best_at dataLt x [y]) fun c o ec => hk' c o (k0 c o ec)
  · obtain ⟨I, fp, wr, G, n, P, St, H, bt, rfl, W, hst, hfp, hn, hw, hkeep, hcmp, hQ⟩ := h₂
    refine wpAny_bind (wpAny_newObj_type ?_)
    have hSf : s₂.heap.objs.size ∉ fp := fun hm => Nat.lt_irrefl _ (hfp _ hm)
    rw [hname]
    refine wpAny_pure ⟨plainId_quiet F.plain_min_loop _, codeAny_min_loop_firstH W H hw bt hcmp s₂.heap.objs.size hSf (fresh_in hkeep) _ hn (fun b o e => Heap.get?_push_of_some _ (hkeep b o e)) (W.frame 0 s₂ _ s₂.toks hst (Nat.le_refl _) fun b _ o e => Heap.get?_push_of_some _ e) (Heap.get?_push_size _ rfl) fun v s' hP hm => ?_⟩
    exact hQ v s' hP (Moved.drop_new (tk := s₂.toks) hm (Nat.le_refl _))
theorem max_two_at {a b : Value} {x y : PyData} {as : List Addr} {Q : Value → Shared → Prop} (hh : A.handled = none) (hr : ReadsAll s.heap [a, b] [x, y] as) (ha : AlikeAll [x, y]) (hu : A.units + 1 + PyData.depthAll [x, y] < cLine)
    (h : ∀ (i : Nat) v h' tk, [a, b][i]? = some v → [x, y].getD i .none = maxD x [y] → (∀ b o, s.heap.get? b = some o → h'.get? b = some o) → Q v { s with heap := h', toks := tk }) :
    wpAny (model prog w) A (call (.builtin "max") [a, b]) Q E s := by
  have hname : (toString "max" ++ toString ".loop" : String) = "max.loop" := by decide
  refine call_function_tree F.kind_max F.plain_max F.entry_max (F.args_max2 _ _) ?_
  show wpAny _ A.in1 (Builtin.Builtins.bindParams "max" ["key", "default"] 0 ⟨[], []⟩ >>= _) _ _ s
  refine wpAny_bind (wpAny_of_eq (show Builtin.Builtins.bindParams "max" ["key", "default"] 0 ⟨[], []⟩ = pure [none, none] from rfl) ?_)
  show wpAny _ A.in1 (newTuple [a, b] >>= _) _ _ s
  refine wpAny_bind (wpAny_newObj_type ?_)
  have hT : (s.heap.push { cls := .type "tuple", data := .seq #[a, b] }).IsTuple s.heap.objs.size #[a, b] := ⟨_, Heap.get?_push_size _ rfl, rfl, 0, rfl⟩
  have k0 : ∀ c o, s.heap.get? c = some o → (s.heap.push { cls := .type "tuple", data := .seq #[a, b] }).get? c = some o := fun c o e => Heap.get?_push_of_some _ e
  refine wpAny_bind (wpAny_mono (iter_tupleW (s := { s with heap := s.heap.push { cls := .type "tuple", data := .seq #[a, b] } }) (A := A.in1) (E := E) (Q := fun it s₂ => ∃ I fp wr G n P St H bt, it = .ref I ∧ WalksS prog w A.in1 I fp wr G n P St ∧ St 0 s₂ ∧ (∀ b ∈ fp, b < s₂.heap.objs.size) ∧ 0 < n ∧
      (∀ b o, H.get? b = some o → b ∉ wr) ∧ (∀ b o, H.get? b = some o → s₂.heap.get? b = some o) ∧ CmpIn prog w A.in1 .Gt H P bt ∧ ∀ v s', P (argBest bt (n - 1)) v → Moved wr G s₂ s' → Q v s') hh hT fun s₂ e W st hfp hw hk => ?_) (fun it s₂ h₂ => ?_) fun _ _ e => e)
  · refine ⟨_, _, _, _, _, _, _, s.heap, _, rfl, W, st, hfp, by simp, fun c o ec => hw c o (k0 c o ec), fun c o ec => hk c o (k0 c o ec), cmpIn_gt (A := A.in1) (vs := #[a, b]) hr ha (by show A.units + 1 + _ < _; exact hu), fun v s' hP m => ?_⟩
    obtain ⟨h', tk, rfl, hk'⟩ := moved_old e rfl m
    exact h _ v h' tk (by simpa using hP) (best_at (fun a b => dataLt b a) x [y]) fun c o ec => hk' c o (k0 c o ec)
  · obtain ⟨I, fp, wr, G, n, P, St, H, bt, rfl, W, hst, hfp, hn, hw, hkeep, hcmp, hQ⟩ := h₂
    refine wpAny_bind (wpAny_newObj_type ?_)
    have hSf : s₂.heap.objs.size ∉ fp := fun hm => Nat.lt_irrefl _ (hfp _ hm)
    rw [hname]
    refine wpAny_pure ⟨plainId_quiet F.plain_max_loop _, codeAny_max_loop_firstH W H hw bt hcmp s₂.heap.objs.size hSf (fresh_in hkeep) _ hn (fun b o e => Heap.get?_push_of_some _ (hkeep b o e)) (W.frame 0 s₂ _ s₂.toks hst (Nat.le_refl _) fun b _ o e => Heap.get?_push_of_some _ e) (Heap.get?_push_size _ rfl) fun v s' hP hm => ?_⟩
    exact hQ v s' hP (Moved.drop_new (tk := s₂.toks) hm (Nat.le_refl _))
end

section
variable {X : Cx}
def rMinD (K : PySem.W.Frag) : List V → Hp → VK → Prop := fun vs H Q => ∃ (a : Addr) (xs : List V) (d : PD) (ds : List PD), vs = [V.ref a] ∧ SqL K H a xs ∧ DpAll K H xs (d :: ds) ∧ PySem.W.AlikeAll (d :: ds) ∧ PyData.depthAll (d :: ds) ≤ 60 ∧
  ∀ (i : Nat) v, xs[i]? = some v → (d :: ds).getD i .none = PySem.W.minD d ds → Q v H
def rMaxD (K : PySem.W.Frag) : List V → Hp → VK → Prop := fun vs H Q => ∃ (a : Addr) (xs : List V) (d : PD) (ds : List PD), vs = [V.ref a] ∧ SqL K H a xs ∧ DpAll K H xs (d :: ds) ∧ PySem.W.AlikeAll (d :: ds) ∧ PyData.depthAll (d :: ds) ≤ 60 ∧
  ∀ (i : Nat) v, xs[i]? = some v → (d :: ds).getD i .none = PySem.W.maxD d ds → Q v H
def rMinTD (K : PySem.W.Frag) : List V → Hp → VK → Prop := fun vs H Q => ∃ (a : Addr) (xs : List V) (d : PD) (ds : List PD), vs = [V.ref a] ∧ SqT K H a xs ∧ DpAll K H xs (d :: ds) ∧ PySem.W.AlikeAll (d :: ds) ∧ PyData.depthAll (d :: ds) ≤ 60 ∧
  ∀ (i : Nat) v, xs[i]? = some v → (d :: ds).getD i .none = PySem.W.minD d ds → Q v H
def rMaxTD (K : PySem.W.Frag) : List V → Hp → VK → Prop := fun vs H Q => ∃ (a : Addr) (xs : List V) (d : PD) (ds : List PD), vs = [V.ref a] ∧ SqT K H a xs ∧ DpAll K H xs (d :: ds) ∧ PySem.W.AlikeAll (d :: ds) ∧ PyData.depthAll (d :: ds) ≤ 60 ∧
  ∀ (i : Nat) v, xs[i]? = some v → (d :: ds).getD i .none = PySem.W.maxD d ds → Q v H
def rMin2D (K : PySem.W.Frag) : List V → Hp → VK → Prop := fun vs H Q => ∃ (x y : V) (d e : PD), vs = [x, y] ∧ Dp K H x d ∧ Dp K H y e ∧ PySem.W.AlikeAll [d, e] ∧ PyData.depthAll [d, e] ≤ 60 ∧
  ∀ (i : Nat) v, [x, y][i]? = some v → [d, e].getD i .none = PySem.W.minD d [e] → Q v H
def rMax2D (K : PySem.W.Frag) : List V → Hp → VK → Prop := fun vs H Q => ∃ (x y : V) (d e : PD), vs = [x, y] ∧ Dp K H x d ∧ Dp K H y e ∧ PySem.W.AlikeAll [d, e] ∧ PyData.depthAll [d, e] ≤ 60 ∧
  ∀ (i : Nat) v, [x, y][i]? = some v → [d, e].getD i .none = PySem.W.maxD d [e] → Q v H
theorem vals_back {xs : List V} {us : List Value} {i : Nat} {u : Value} (r : Vals xs us) (h : us[i]? = some u) : ∃ v, xs[i]? = some v ∧ RelV v u := by
  cases e : xs[i]? with
  | none => rw [r.none_of e] at h; cases h
  | some v =>
    obtain ⟨u', e', ru⟩ := r.get e
    rw [h] at e'
    cases e'
    exact ⟨v, rfl, ru⟩
theorem cr_minD (hc : X.calm = true) (hu : X.A.units + 65 < cLine) : CallR X (.builtin "min") (rMinD X.K) := by
  intro pins s σ H vs us Q I r h
  obtain ⟨a, xs, d, ds, rfl, hs, hd, ha, hz, q⟩ := h
  obtain ⟨its, rv, hl, _⟩ := I.list hs
  rw [Vals.ref1 r]
  obtain ⟨as, hr⟩ := Dp.readsAll I _ _ _ hd rv
  refine min_list_at (I.ok.hd hc) hl.isList hr ha (by omega) fun i v h' tk hv hi k => ?_
  obtain ⟨x, hx, rx⟩ := vals_back rv (by simpa using hv)
  exact ⟨x, H, I.kept k, rx, q i x hx hi⟩
theorem cr_maxD (hc : X.calm = true) (hu : X.A.units + 65 < cLine) : CallR X (.builtin "max") (rMaxD X.K) := by
  intro pins s σ H vs us Q I r h
  obtain ⟨a, xs, d, ds, rfl, hs, hd, ha, hz, q⟩ := h
  obtain ⟨its, rv, hl, _⟩ := I.list hs
  rw [Vals.ref1 r]
  obtain ⟨as, hr⟩ := Dp.readsAll I _ _ _ hd rv
  refine max_list_at (I.ok.hd hc) hl.isList hr ha (by omega) fun i v h' tk hv hi k => ?_
  obtain ⟨x, hx, rx⟩ := vals_back rv (by simpa using hv)
  exact ⟨x, H, I.kept k, rx, q i x hx hi⟩
theorem cr_minTD (hc : X.calm = true) (hu : X.A.units + 65 < cLine) : CallR X (.builtin "min") (rMinTD X.K) := by
  intro pins s σ H vs us Q I r h
  obtain ⟨a, xs, d, ds, rfl, hs, hd, ha, hz, q⟩ := h
  obtain ⟨its, rv, hl, _⟩ := I.tuple hs
  rw [Vals.ref1 r]
  obtain ⟨as, hr⟩ := Dp.readsAll I _ _ _ hd rv
  refine min_tup_at (I.ok.hd hc) hl hr ha (by omega) fun i v h' tk hv hi k => ?_
  obtain ⟨x, hx, rx⟩ := vals_back rv (by simpa using hv)
  exact ⟨x, H, I.kept k, rx, q i x hx hi⟩
theorem cr_maxTD (hc : X.calm = true) (hu : X.A.units + 65 < cLine) : CallR X (.builtin "max") (rMaxTD X.K) := by
  intro pins s σ H vs us Q I r h
  obtain ⟨a, xs, d, ds, rfl, hs, hd, ha, hz, q⟩ := h
  obtain ⟨its, rv, hl, _⟩ := I.tuple hs
  rw [Vals.ref1 r]
  obtain ⟨as, hr⟩ := Dp.readsAll I _ _ _ hd rv
  refine max_tup_at (I.ok.hd hc) hl hr ha (by omega) fun i v h' tk hv hi k => ?_
  obtain ⟨x, hx, rx⟩ := vals_back rv (by simpa using hv)
  exact ⟨x, H, I.kept k, rx, q i x hx hi⟩
theorem cr_min2D (hc : X.calm = true) (hu : X.A.units + 65 < cLine) : CallR X (.builtin "min") (rMin2D X.K) := by
  intro pins s σ H vs us Q I r h
  obtain ⟨x, y, d, e, rfl, hx, hy, ha, hz, q⟩ := h
  obtain ⟨as, hr⟩ := Dp.readsAll I _ _ _ (.cons hx (.cons hy .nil)) r
  obtain ⟨u, w', rfl, _, _⟩ := r.two
  refine min_two_at (I.ok.hd hc) hr ha (by omega) fun i v h' tk hv hi k => ?_
  obtain ⟨x, hx, rx⟩ := vals_back r hv
  exact ⟨x, H, I.kept k, rx, q i x hx hi⟩
theorem cr_max2D (hc : X.calm = true) (hu : X.A.units + 65 < cLine) : CallR X (.builtin "max") (rMax2D X.K) := by
  intro pins s σ H vs us Q I r h
  obtain ⟨x, y, d, e, rfl, hx, hy, ha, hz, q⟩ := h
  obtain ⟨as, hr⟩ := Dp.readsAll I _ _ _ (.cons hx (.cons hy .nil)) r
  obtain ⟨u, w', rfl, _, _⟩ := r.two
  refine max_two_at (I.ok.hd hc) hr ha (by omega) fun i v h' tk hv hi k => ?_
  obtain ⟨x, hx, rx⟩ := vals_back r hv
  exact ⟨x, H, I.kept k, rx, q i x hx hi⟩
end

section
variable {T : Type} {k : Tk T} {g : Glob T} {tb : Tb} {lv : Nat} {X : Cx}
theorem foldl_mem {α : Type} (p : α → α → Bool) : ∀ (l : List α) (x : α), l.foldl (fun a y => if p a y then y else a) x ∈ x :: l
  | [], x => List.mem_cons_self
  | y :: l, x => by
    rw [List.foldl_cons]
    have := foldl_mem p l (if p x y then y else x)
    rcases List.mem_cons.mp this with h | h
    · rw [h]; split
      · exact List.mem_cons_of_mem _ List.mem_cons_self
      · exact List.mem_cons_self
    · exact List.mem_cons_of_mem _ (List.mem_cons_of_mem _ h)
theorem foldl_best {α : Type} {p q : α → α → Bool} : ∀ (l : List α) (x : α), (∀ a ∈ x :: l, ∀ b ∈ x :: l, p a b = q a b) → l.foldl (fun a y => if p a y then y else a) x = l.foldl (fun a y => if q a y then y else a) x
  | [], _, _ => rfl
  | y :: l, x, h => by
    rw [List.foldl_cons, List.foldl_cons, h x List.mem_cons_self y (List.mem_cons_of_mem _ List.mem_cons_self)]
    refine foldl_best l _ fun a ha b hb => h a ?_ b ?_
    · rcases List.mem_cons.mp ha with rfl | ha
      · split
        · exact List.mem_cons_of_mem _ List.mem_cons_self
        · exact List.mem_cons_self
      · exact List.mem_cons_of_mem _ (List.mem_cons_of_mem _ ha)
    · rcases List.mem_cons.mp hb with rfl | hb
      · split
        · exact List.mem_cons_of_mem _ List.mem_cons_self
        · exact List.mem_cons_self
      · exact List.mem_cons_of_mem _ (List.mem_cons_of_mem _ hb)
theorem minD_eq {x : PD} {xs : List PD} (h : PySem.W.AlikeAll (x :: xs)) : PySem.W.minD x xs = minP x xs :=
  foldl_best xs x fun a ha b hb => pLt_eq b a (h.1 b hb a ha)
theorem maxD_eq {x : PD} {xs : List PD} (h : PySem.W.AlikeAll (x :: xs)) : PySem.W.maxD x xs = maxP x xs :=
  foldl_best xs x fun a ha b hb => pLt_eq a b (h.1 a ha b hb)
theorem ints_alike {xs : List PD} (h : xs.all isInt = true) : PySem.W.AlikeAll xs ∧ PyData.canLayAll0 xs = true ∧ PyData.depthAll xs ≤ 60 := by
  have hs : sortable xs = true := by
    unfold sortable
    rw [h]; simp
  obtain ⟨h1, h2, h3⟩ := sortable_ok hs
  refine ⟨⟨h1, fun x hx e => ?_⟩, ?_, ?_⟩
  · subst e
    have := List.all_eq_true.mp h _ hx; cases this
  · have h4 := fun d hd => (h3 d hd).1
    clear h h1 h2 hs h3
    induction xs with
    | nil => rfl
    | cons x xs ih => rw [PyData.canLayAll0, h4 x List.mem_cons_self, ih fun d hd => h4 d (List.mem_cons_of_mem _ hd)]; rfl
  · have h4 := fun d hd => (h3 d hd).2
    clear h h1 h2 hs h3
    induction xs with
    | nil => simp [PyData.depthAll]
    | cons x xs ih =>
      rw [PyData.depthAll]
      have := h4 x List.mem_cons_self
      have := ih fun d hd => h4 d (List.mem_cons_of_mem _ hd)
      omega
theorem ints_not {xs : List PD} (h : xs.all isInt = true) : ∀ d ∈ xs, ∀ ds, d ≠ .list ds := fun d hd ds e => by
  subst e
  have := List.all_eq_true.mp h _ hd; cases this
theorem minable_ok {xs : List PD} (h : minable xs = true) : PySem.W.AlikeAll xs ∧ PyData.canLayAll0 xs = true ∧ PyData.depthAll xs ≤ 60 := by
  have hs : sortable xs = true := by
    unfold minable at h
    rw [Bool.or_eq_true] at h
    unfold sortable
    rcases h with h | h
    · rw [h]; simp
    · rw [h]; simp
  obtain ⟨h1, h2, h3⟩ := sortable_ok hs
  refine ⟨⟨h1, fun x hx e => ?_⟩, ?_, ?_⟩
  · subst e
    unfold minable at h
    rw [Bool.or_eq_true] at h
    rcases h with h | h
    · have := List.all_eq_true.mp h _ hx; cases this
    · have := List.all_eq_true.mp h _ hx; cases this
  · have h4 := fun d hd => (h3 d hd).1
    clear h h1 h2 hs h3
    induction xs with
    | nil => rfl
    | cons x xs ih => rw [PyData.canLayAll0, h4 x List.mem_cons_self, ih fun d hd => h4 d (List.mem_cons_of_mem _ hd)]; rfl
  · have h4 := fun d hd => (h3 d hd).2
    clear h h1 h2 hs h3
    induction xs with
    | nil => simp [PyData.depthAll]
    | cons x xs ih =>
      rw [PyData.depthAll]
      have := h4 x List.mem_cons_self
      have := ih fun d hd => h4 d (List.mem_cons_of_mem _ hd)
      omega
theorem getD_get {xs : List PD} {i : Nat} {d : PD} (h : xs.getD i .none = d) (hi : i < xs.length) : xs[i]? = some d := by
  rw [List.getD_eq_getElem?_getD] at h
  rw [List.getElem?_eq_getElem hi] at h ⊢
  exact congrArg some h
theorem best_rp {F : Fz} {H : Hp} {vs : List V} {ds : List PD} {i : Nat} {v : V} {d : PD} (r : RpA X.K k.tv F H vs ds) (hv : vs[i]? = some v) (hd : ds.getD i .none = d) : Rp X.K k.tv F H v d := by
  have hi : i < ds.length := by rw [← r.length]; exact (List.getElem?_eq_some_iff.mp hv).1
  obtain ⟨w, e, rw'⟩ := r.get (getD_get hd hi)
  rw [hv] at e
  cases e
  exact rw'
theorem minT_not {x : PD} {xs : List PD} (h : minable (x :: xs) = true) : ∀ d ∈ x :: xs, ∀ ds, d ≠ .list ds := fun d hd ds e => by
  subst e
  unfold minable at h
  rw [Bool.or_eq_true] at h
  rcases h with h | h
  · have := List.all_eq_true.mp h _ hd; cases this
  · have := List.all_eq_true.mp h _ hd; cases this
abbrev rMinX (K : PySem.W.Frag) : List V → Hp → VK → Prop := fun xs H Q => rMin K xs H Q ∨ rMinD K xs H Q ∨ rMinTD K xs H Q
abbrev rMaxX (K : PySem.W.Frag) : List V → Hp → VK → Prop := fun xs H Q => rMax K xs H Q ∨ rMaxD K xs H Q ∨ rMaxTD K xs H Q
theorem bi_minL : BiOk k X.K .minL (rMinX X.K) := fun τ F H vs ds d Q gd r e q => by
  unfold biD at e
  split at e
  all_goals first | contradiction | skip
  · split at e
    · rename_i x r' e0
      cases e
      obtain ⟨v, rfl, h1⟩ := pr1 (F := F) (H := H) r
      obtain ⟨a, xs, rfl, h, ra⟩ := h1.list
      rw [ints_rpa ra e0] at h
      refine .inl ⟨a, _, rfl, h, Nat.succ_pos _, fun m hm hle => ?_⟩
      have h1 := minI_le r' x
      have e2 : m = minI x r' := by
        have l1 : minI x r' ≤ m := by
          rcases List.mem_cons.mp hm with rfl | hm
          · exact h1.1
          · exact h1.2 m hm
        have l2 : m ≤ minI x r' := by
          rcases minI_mem r' x with z | z
          · rw [z]; exact hle x List.mem_cons_self
          · exact hle _ (List.mem_cons_of_mem _ z)
        omega
      rw [e2]
      exact q _ H (.refl _ _ _) gd (Rp.int _)
    · split at e
      · rename_i x r' _
        obtain ⟨hm, e1⟩ := ite_some e
        subst e1
        obtain ⟨v, rfl, h1⟩ := pr1 (F := F) (H := H) r
        obtain ⟨a, xs, rfl, h, ra⟩ := h1.list
        obtain ⟨h2, h3, h4⟩ := minable_ok hm
        refine .inr (.inl ⟨a, xs, x, r', rfl, h, ra.dp h3, h2, h4, fun i v hv hi => ?_⟩)
        rw [minD_eq h2] at hi
        refine q v H (.refl _ _ _) gd (frv_rp (best_rp ra hv hi) fun ds => minT_not hm _ (foldl_mem (fun a y => pLt y a) r' x) ds)
      · cases e
  · split at e
    · rename_i x r'
      obtain ⟨hm, e1⟩ := ite_some e
      subst e1
      obtain ⟨v, rfl, h1⟩ := pr1 (F := F) (H := H) r
      rcases h1 with h1 | ⟨_, _, _, _, z, _⟩
      · cases h1 with
        | tup h ra =>
          obtain ⟨h2, h3, h4⟩ := ints_alike hm
          refine .inr (.inr ⟨_, _, x, r', rfl, h.sq, ra.dp h3, h2, h4, fun i v hv hi => ?_⟩)
          rw [minD_eq h2] at hi
          exact q v H (.refl _ _ _) gd (frv_rp (best_rp ra hv hi) fun ds => ints_not hm _ (foldl_mem (fun a y => pLt y a) r' x) ds)
      · cases z
    · cases e
  all_goals cases e
theorem bi_maxL : BiOk k X.K .maxL (rMaxX X.K) := fun τ F H vs ds d Q gd r e q => by
  unfold biD at e
  split at e
  all_goals first | contradiction | skip
  · split at e
    · rename_i x r' e0
      cases e
      obtain ⟨v, rfl, h1⟩ := pr1 (F := F) (H := H) r
      obtain ⟨a, xs, rfl, h, ra⟩ := h1.list
      rw [ints_rpa ra e0] at h
      refine .inl ⟨a, _, rfl, h, Nat.succ_pos _, fun m hm hle => ?_⟩
      have h1 := maxI_le r' x
      have e2 : m = maxI x r' := by
        have l1 : m ≤ maxI x r' := by
          rcases List.mem_cons.mp hm with rfl | hm
          · exact h1.1
          · exact h1.2 m hm
        have l2 : maxI x r' ≤ m := by
          rcases maxI_mem r' x with z | z
          · rw [z]; exact hle x List.mem_cons_self
          · exact hle _ (List.mem_cons_of_mem _ z)
        omega
      rw [e2]
      exact q _ H (.refl _ _ _) gd (Rp.int _)
    · split at e
      · rename_i x r' _
        obtain ⟨hm, e1⟩ := ite_some e
        subst e1
        obtain ⟨v, rfl, h1⟩ := pr1 (F := F) (H := H) r
        obtain ⟨a, xs, rfl, h, ra⟩ := h1.list
        obtain ⟨h2, h3, h4⟩ := minable_ok hm
        refine .inr (.inl ⟨a, xs, x, r', rfl, h, ra.dp h3, h2, h4, fun i v hv hi => ?_⟩)
        rw [maxD_eq h2] at hi
        refine q v H (.refl _ _ _) gd (frv_rp (best_rp ra hv hi) fun ds => minT_not hm _ (foldl_mem (fun a y => pLt a y) r' x) ds)
      · cases e
  · split at e
    · rename_i x r'
      obtain ⟨hm, e1⟩ := ite_some e
      subst e1
      obtain ⟨v, rfl, h1⟩ := pr1 (F := F) (H := H) r
      rcases h1 with h1 | ⟨_, _, _, _, z, _⟩
      · cases h1 with
        | tup h ra =>
          obtain ⟨h2, h3, h4⟩ := ints_alike hm
          refine .inr (.inr ⟨_, _, x, r', rfl, h.sq, ra.dp h3, h2, h4, fun i v hv hi => ?_⟩)
          rw [maxD_eq h2] at hi
          exact q v H (.refl _ _ _) gd (frv_rp (best_rp ra hv hi) fun ds => ints_not hm _ (foldl_mem (fun a y => pLt a y) r' x) ds)
      · cases z
    · cases e
  all_goals cases e
abbrev rMin2X (K : PySem.W.Frag) : List V → Hp → VK → Prop := fun xs H Q => (∃ i j, xs = [.int i, .int j] ∧ Q (.int (if j < i then j else i)) H) ∨ rMin2D K xs H Q
abbrev rMax2X (K : PySem.W.Frag) : List V → Hp → VK → Prop := fun xs H Q => (∃ i j, xs = [.int i, .int j] ∧ Q (.int (if j > i then j else i)) H) ∨ rMax2D K xs H Q
theorem two_minable {a b : PD} (h : (isIntT a && isIntT b) = true) : minable [a, b] = true := by
  rw [Bool.and_eq_true] at h
  unfold minable
  simp [h.1, h.2]
theorem bi_min2 : BiOk k X.K .min2 (rMin2X X.K) := fun τ F H vs ds d Q gd r e q => by
  unfold biD at e
  split at e
  all_goals first | contradiction | skip
  · cases e
    obtain ⟨v, w, rfl, h1, h2⟩ := pr2 r
    cases h1.int
    cases h2.int
    exact .inl ⟨_, _, rfl, q _ H (.refl _ _ _) gd (Rp.int _)⟩
  · rename_i xs ys hh
    obtain ⟨hm, e1⟩ := ite_some e
    subst e1
    obtain ⟨v, w, rfl, h1, h2⟩ := pr2 r
    have hm := two_minable hm
    obtain ⟨h3, h4, h5⟩ := minable_ok hm
    have r1 : Rp X.K k.tv F H v (.tuple xs) := by exact h1.rpT
    have r2 : Rp X.K k.tv F H w (.tuple ys) := by exact h2.rpT
    have h4' := h4
    simp only [PyData.canLayAll0, Bool.and_eq_true, Bool.and_true] at h4'
    refine .inr ⟨v, w, _, _, rfl, r1.dp h4'.1, r2.dp h4'.2, h3, h5, fun i u hv hi => ?_⟩
    rw [minD_eq h3] at hi
    refine q u H (.refl _ _ _) gd (frv_rp (best_rp (.cons r1 (.cons r2 .nil)) hv hi) fun ds => minT_not hm _ (foldl_mem (fun a y => pLt y a) [.tuple ys] (.tuple xs)) ds)
  all_goals cases e
theorem bi_max2 : BiOk k X.K .max2 (rMax2X X.K) := fun τ F H vs ds d Q gd r e q => by
  unfold biD at e
  split at e
  all_goals first | contradiction | skip
  · cases e
    obtain ⟨v, w, rfl, h1, h2⟩ := pr2 r
    cases h1.int
    cases h2.int
    exact .inl ⟨_, _, rfl, q _ H (.refl _ _ _) gd (Rp.int _)⟩
  · rename_i xs ys hh
    obtain ⟨hm, e1⟩ := ite_some e
    subst e1
    obtain ⟨v, w, rfl, h1, h2⟩ := pr2 r
    have hm := two_minable hm
    obtain ⟨h3, h4, h5⟩ := minable_ok hm
    have r1 : Rp X.K k.tv F H v (.tuple xs) := by exact h1.rpT
    have r2 : Rp X.K k.tv F H w (.tuple ys) := by exact h2.rpT
    have h4' := h4
    simp only [PyData.canLayAll0, Bool.and_eq_true, Bool.and_true] at h4'
    refine .inr ⟨v, w, _, _, rfl, r1.dp h4'.1, r2.dp h4'.2, h3, h5, fun i u hv hi => ?_⟩
    rw [maxD_eq h3] at hi
    refine q u H (.refl _ _ _) gd (frv_rp (best_rp (.cons r1 (.cons r2 .nil)) hv hi) fun ds => minT_not hm _ (foldl_mem (fun a y => pLt a y) [.tuple ys] (.tuple xs)) ds)
  all_goals cases e
theorem bi_int : BiOk k X.K .int (fun xs H Q => ((∃ i, xs = [.int i] ∧ Q (.int i) H) ∨ ∃ c, xs = [.bl c] ∧ Q (.int (if c then 1 else 0)) H) ∨ ∃ a n, xs = [.str a] ∧ PySem.intText? a = some n ∧ a.length ≤ 640 ∧ Q (.int n) H) := fun τ F H vs ds d Q gd r e q => by
  unfold biD at e
  split at e
  all_goals first | contradiction | skip
  · cases e
    obtain ⟨v, rfl, h1⟩ := pr1 (F := F) (H := H) r
    cases h1.int
    exact .inl (.inl ⟨_, rfl, q _ H (.refl _ _ _) gd (Rp.int _)⟩)
  · cases e
    obtain ⟨v, rfl, h1⟩ := pr1 (F := F) (H := H) r
    cases h1.bool
    exact .inl (.inr ⟨_, rfl, q _ H (.refl _ _ _) gd (Rp.int _)⟩)
  · split at e
    · rename_i hz
      obtain ⟨n, e1, e2⟩ := Option.map_eq_some_iff.mp e
      cases e2
      obtain ⟨v, rfl, h1⟩ := pr1 (F := F) (H := H) r
      cases h1.str
      exact .inr ⟨_, _, rfl, e1, of_decide_eq_true hz, q _ H (.refl _ _ _) gd (Rp.int _)⟩
    · cases e
  all_goals cases e
theorem bi_str : BiOk k X.K .str (fun xs H Q => ∃ i, xs = [.int i] ∧ i.natAbs.log2 < 1920 ∧ Q (.str (toString i)) H) := fun τ F H vs ds d Q gd r e q => by
  unfold biD at e
  split at e
  all_goals first | contradiction | skip
  · split at e
    · rename_i hz
      cases e
      obtain ⟨v, rfl, h1⟩ := pr1 (F := F) (H := H) r
      cases h1.int
      exact ⟨_, rfl, of_decide_eq_true hz, q _ H (.refl _ _ _) gd (Rp.str _)⟩
    · cases e
  all_goals cases e

/-! ### displays -/
theorem le_upd {Z F F1 : Fz} {H H1 : Hp} {p : Addr} {o o' : HO} (l : Le Z F (upd H p o) F1 H1) (hp : H p = none) : Le Z F H F1 (upd H1 p o') :=
  ⟨l.sub, fun a u h nz => by rw [upd_ne (ne_of_none h hp)]; exact l.keep a u (by rw [upd_ne (ne_of_none h hp)]; exact h) nz,
    fun a h => (l.new a h).imp id fun z => by
      by_cases e : a = p
      · subst e; exact hp
      · rw [upd_ne e] at z; exact z,
    fun a h => by
      by_cases e : a = p
      · subst e; exact absurd hp h
      · rw [upd_ne e]; exact l.there a (by rw [upd_ne e]; exact h)⟩
theorem gd_upd {τ : T} {F : Fz} {H : Hp} {p : Addr} {o : HO} (gd : Gd k τ F H) (hz : ¬ k.Z p) (hf : ¬ F p) : Gd k τ F (upd H p o) :=
  ⟨k.stay _ _ _ gd.ok fun a za => upd_ne (by rintro rfl; exact hz za), fun a ha => ⟨(gd.fz a ha).1, by rw [upd_ne (by rintro rfl; exact hf ha)]; exact (gd.fz a ha).2⟩⟩
theorem lw_upd {F : Fz} {H : Hp} {p : Addr} {o : HO} (hf : ¬ F p) (hi : ∀ u, H p = some u → ¬ imm u) : Lw F H F (upd H p o) :=
  ⟨fun _ h => h, fun a u h c => by
    rw [upd_ne]
    · exact h
    · rintro rfl
      exact c.elim hf (hi u h)⟩
/-- a display's pairs -/
structure SPr (k : Tk T) (g : Glob T) (X : Cx) (pos : Pos) (keys : List (Option Expr)) (values : List Expr) (ks : List Str) (ms : Es) : Prop where
  ex : ∃ trs, PPs X pos keys values trs ∧ ∀ (H0 : Hp) (ρ : Ev) (τ : T) (σ : Sg) (F : Fz) (H : Hp) (ds : List PD) (τ' : T) (Q : List (V × V) → Hp → Prop), Okk k X.K H0 ρ σ F H → Gd k τ F H → evs g ms ρ τ = some (ds, τ') →
    (∀ vs F' H', Le k.Z F H F' H' → Gd k τ' F' H' → RpA X.K k.tv F' H' vs ds → Q ((ks.map V.str).zip vs) H') → tPairs trs σ H Q
theorem spr_nil {pos : Pos} : SPr k g X pos [] [] [] .nil := ⟨[], pps_nil, fun H0 ρ τ σ F H ds τ' Q ok gd e q => by
  rw [evs] at e
  cases e
  exact q [] F H (.refl _ _ _) gd .nil⟩
theorem spr_cons {pos kp : Pos} {j : Nat} {s : Str} {v : Expr} {keys : List (Option Expr)} {values : List Expr} {ks : List Str} {m : E} {ms : Es} (h : SE k g X v m) (hp : m.isPk = false) (hs : SPr k g X pos keys values ks ms) :
    SPr k g X pos (some (.Constant (.str s) j kp) :: keys) (v :: values) (s :: ks) (.cons m ms) := by
  obtain ⟨t, p, x, _, _⟩ := h.ex
  obtain ⟨trs, pp, r⟩ := hs.ex
  refine ⟨_, pps_cons pe_str p pp, fun H0 ρ τ σ F H ds τ' Q ok gd e q => ?_⟩
  rw [evs] at e
  obtain ⟨⟨d, τ1⟩, e1, e⟩ := bind2 e
  obtain ⟨⟨ds', τ2⟩, e2, e3⟩ := Option.map_eq_some_iff.mp e
  cases e3
  show t σ H _
  refine x hp H0 ρ τ σ F H d τ1 _ ok gd e1 fun v F1 H1 l1 g1 r1 => ?_
  refine r H0 ρ τ1 σ F1 H1 ds' τ2 _ (ok.le gd l1) g1 e2 fun vs F2 H2 l2 g2 r2 => ?_
  exact q (v :: vs) F2 H2 (l1.trans l2) g2 (.cons (r1.lw (l2.lw g1)) r2)
theorem pick_ok {F : Fz} {H : Hp} {z : Str} {d : PD} : ∀ {ks : List Str} {vs : List V} {ds : List PD} {acc : List (Key × V)} {o : Option PD}, RpA X.K k.tv F H vs ds → ks.length = ds.length → pickD ks ds z o = some d →
    (∀ d, o = some d → ∃ v, valV acc (Sum.inr z : Key) = some v ∧ Rp X.K k.tv F H v d) → ∃ v, valV (mergeK acc ((ks.zip vs).map fun p => (Sum.inr p.1, p.2))) (Sum.inr z : Key) = some v ∧ Rp X.K k.tv F H v d
  | [], _, [], acc, o, .nil, _, e, h => h d (by simpa [pickD] using e)
  | [], _, _ :: _, _, _, _, hl, _, _ => by cases hl
  | _ :: _, _, [], _, _, _, hl, _, _ => by cases hl
  | s :: ks, _, _ :: _, acc, o, .cons (v := v) hv ht, hl, e, h => by
    rw [pickD] at e
    refine pick_ok (acc := putK acc (Sum.inr s) v) ht (by simpa using hl) e fun d' hd' => ?_
    rw [valV_put]
    by_cases hs : s = z
    · subst hs
      rw [if_pos rfl] at hd'
      cases hd'
      exact ⟨v, if_pos rfl, hv⟩
    · rw [if_neg hs] at hd'
      obtain ⟨v', e1, e2⟩ := h d' hd'
      exact ⟨v', by rw [if_neg (fun q => hs (Sum.inr.inj q).symm)]; exact e1, e2⟩
theorem evs_len : ∀ {ms : Es} {ρ : Ev} {τ τ' : T} {ds : List PD} {n : Nat}, evs g ms ρ τ = some (ds, τ') → (match ms with | .nil => n = 0 | _ => True) → True
  | _, _, _, _, _, _, _, _ => trivial
theorem kvs_eq : ∀ (ks : List Str) (vs : List V), (ks.map V.str).zip vs = ((ks.zip vs).map fun p => ((Sum.inr p.1 : Key), p.2)).map fun kv => (kV kv.1, kv.2)
  | [], _ => rfl
  | _ :: _, [] => rfl
  | s :: ks, v :: vs => by
    rw [List.map_cons, List.zip_cons_cons, List.zip_cons_cons, List.map_cons, List.map_cons, kvs_eq ks vs]
    rfl
/-- repr of a list, of a tuple -/
def rRepr (K : PySem.W.Frag) : List V → Hp → VK → Prop := fun vs H Q => ∃ (v : V) (d : PD), vs = [v] ∧ Dp K H v d ∧ reprOk d = true ∧ (∃ a, v = .ref a) ∧ Q (.str d.shown) H
theorem cr_repr (hg : X.A.guards = some []) (hu : X.A.units + 65 < cLine) : CallR X (.builtin "repr") (rRepr X.K) := by
  intro pins s σ H vs us Q I r h
  obtain ⟨v, d, rfl, hd, hk, ⟨a, rfl⟩, q⟩ := h
  obtain ⟨as, hr⟩ := Dp.readsAll I _ _ _ (.cons hd .nil) r
  rw [Vals.ref1 r] at hr ⊢
  unfold reprOk at hk
  simp only [Bool.and_eq_true, decide_eq_true_eq, Bool.not_eq_true'] at hk
  obtain ⟨⟨⟨⟨k1, k2⟩, k3⟩, k4⟩, k5⟩ := hk
  cases hr with
  | cons h1 _ =>
    exact repr_of_reads' h1 k2 (fun z => by rw [k3] at z; cases z) hg (by omega) (fun b o e => e) (fun h' u tk kp => ⟨.str _, H, I.kept kp, ⟨_, rfl⟩, q⟩) k5
theorem se_rp {x : Str} {p pos : Pos} {e : Expr} {m : E} (G : GOk k g tb lv X) (hrp : tb.rp = true) (hx : x = "repr") (hg : Gl X x) (hb : x ∈ tb.bl) (hn : nst e = true) (h : SE k g X e m) : SE k g X (.Call (.Name x p) [e] [] pos) (.rp m) := by
  subst hx
  obtain ⟨t, pe, _, rb, _⟩ := h.ex
  refine .ofX (pe_callB (cr_repr (G.rps hrp) G.hu) hg (G.blt _ hb) (by decide +kernel) (pa_cons pe pa_nil (star_cons hn)) (by decide) (by decide) (star_cons hn) (star_any rfl)) (fun H0 ρ τ σ F H d τ' Q ok gd e q => ?_) rfl
  rw [ev] at e
  obtain ⟨⟨x, τ1⟩, e1, e⟩ := bind2 e
  obtain ⟨d', e2, e3⟩ := Option.map_eq_some_iff.mp e
  cases e3
  refine rb H0 ρ τ σ F H x τ1 _ ok gd e1 fun v F1 H1 l1 g1 r1 => ?_
  have lay : ∀ {d : PD}, reprOk d = true → d.canLay0 = true := fun {d} z => by
    unfold reprOk at z
    simp only [Bool.and_eq_true] at z
    exact z.1.1.1.1
  cases x with
  | list xs =>
    obtain ⟨hk, rfl⟩ := ite_some e2
    obtain ⟨l, vs, rfl, hl, ra⟩ := r1.list
    have hc := lay hk
    rw [PyData.canLay0] at hc
    exact ⟨.ref l, .list xs, rfl, .lst hl (ra.dp hc), hk, ⟨l, rfl⟩, q _ F1 H1 l1 g1 (.str _)⟩
  | tuple xs =>
    obtain ⟨hk, rfl⟩ := ite_some e2
    have hc := lay hk
    rw [PyData.canLay0] at hc
    rcases r1 with r1 | ⟨_, _, _, _, z, _⟩
    · cases r1 with
      | tup h ra => exact ⟨.ref _, .tuple xs, rfl, .tup h.sq (ra.dp hc), hk, ⟨_, rfl⟩, q _ F1 H1 l1 g1 (.str _)⟩
    · cases z
  | _ => cases e2
theorem se_dix {keys : List (Option Expr)} {values : List Expr} {i0 : Expr} {p pos : Pos} {ks : List Str} {ms : Es} {m : E} (hu : X.A.units + 65 < cLine) (h : SPr k g X p keys values ks ms) (hall : keys.all (·.isSome) = true) (hl : keys.length = values.length) (h0 : keys ≠ []) (h15 : keys.length ≤ 15)
    (hk : ks.length ≤ 15) (hlen : ∀ ρ τ ds τ', evs g ms ρ τ = some (ds, τ') → ks.length = ds.length) (hi : SE k g X i0 m) (hs : NoSl i0) : SE k g X (.Subscript (.Dict keys values p) i0 pos) (.dix ks ms m) := by
  obtain ⟨trs, pp, r⟩ := h.ex
  obtain ⟨ti, pi, _, bi, _⟩ := hi.ex
  refine .ofX (pe_dget (by omega) (pe_disp pp hall hl h0 h15) pi hs) (fun H0 ρ τ σ F H d τ' Q ok gd e q => ?_) rfl
  rw [ev] at e
  obtain ⟨⟨ds, τ1⟩, e1, e⟩ := bind2 e
  obtain ⟨⟨y, τ2⟩, e2, e⟩ := bind2 e
  intro a ha
  have gz := gd.newZ ha
  refine r H0 ρ τ σ F (upd H a (.dK [])) ds τ1 _ (ok.le gd (le_new (.refl _ _ _) ha)) (gd_new gd ha) e1 fun vs F1 H1 l1 g1 r1 => ?_
  have hE : H1 a = some (.dK []) := l1.keep a _ upd_same gz
  have nf : ¬ F1 a := fun z => (l1.new a z).elim (noF gd ha) fun z => by rw [upd_same] at z; cases z
  have hvl : vs.length = ks.length := by rw [r1.length]; exact (hlen _ _ _ _ e1).symm
  refine ⟨hE, (ks.zip vs).map fun p => (Sum.inr p.1, p.2), kvs_eq ks vs, by rw [List.length_map, List.length_zip]; omega, ?_⟩
  generalize hM : mergeK [] ((ks.zip vs).map fun p => ((Sum.inr p.1 : Key), p.2)) = M
  have lA := le_upd (o' := .dK M) l1 ha
  have gA := gd_upd (o := .dK M) g1 gz nf
  have lw := lw_upd (F := F1) (H := H1) (p := a) (o := .dK M) nf (fun u hu hi => by rw [hE] at hu; cases hu; exact hi)
  refine bi H0 ρ τ1 σ F1 _ y τ2 _ (ok.le gd lA) gA e2 fun w F2 H2 l2 g2 r2 => ?_
  cases y with
  | str z =>
    obtain ⟨d', e3, e4⟩ := Option.map_eq_some_iff.mp e
    cases e4
    cases r2.str
    obtain ⟨v, ev, rv⟩ := pick_ok (k := k) (X := X) (acc := []) (z := z) r1 (hlen _ _ _ _ e1) e3 (fun d h => by cases h)
    rw [hM] at ev
    have hA : H2 a = some (.dK M) := l2.keep a _ upd_same gz
    exact ⟨a, v, rfl, by have := DGet.k (k := Sum.inr z) hA; rw [ev] at this; exact this, q v F2 H2 (lA.trans l2) g2 ((rv.lw lw).lw (l2.lw gA))⟩
  | _ => cases e
/-- C[x], C a dict of the top -/
theorem se_cix {c : Nat} {x : Str} {i0 : Expr} {p pos : Pos} {m : E} (G : GOk k g tb lv X) (hg : Gl X x) (hx : tb.dcs[c]? = some x) (hd : (x == ("__debug__" : Str)) = false) (hi : SE k g X i0 m) (hs : PlainIx i0) : SE k g X (.Subscript (.Name x p) i0 pos) (.cix c m) := by
  obtain ⟨ti, pi, _, bi, _⟩ := hi.ex
  obtain ⟨a, hm, hz⟩ := G.dct c x hx
  refine .ofX (pe_ix ix_kdict (pe_glob hg hm (v := .ref a) rfl hd) pi hs) (fun H0 ρ τ σ F H d τ' Q ok gd e q => ?_) rfl
  rw [ev] at e
  obtain ⟨⟨y, τ2⟩, e2, e⟩ := bind2 e
  show ti σ H _
  refine bi H0 ρ τ σ F H y τ2 _ ok gd e2 fun w F2 H2 l2 g2 r2 => ?_
  cases y with
  | str z =>
    obtain ⟨d', e3, e4⟩ := Option.map_eq_some_iff.mp e
    cases e4
    cases r2.str
    obtain ⟨v, hv, rv⟩ := hz z _ e3
    exact ⟨a, z, v, rfl, rfl, hv, q v F2 H2 l2 g2 (rv F2 H2)⟩
  | _ => cases e
end
end Fh
/-! enumerate of a tuple -/
namespace Fh
open PySem PySem.Spec PyProof.Rows L2
open AutoSeq1 (wpAny_loadPart')
abbrev tupIt (t : Addr) : Obj := { cls := .type "tuple_iterator", data := .fields #[.ref t, .int 0 0] }
abbrev enumOver (a : Addr) : Obj := { cls := .type "enumerate", data := .fields #[.none, .bool false, .ref a, rawInt 0, .none, .none] }
theorem new_enumT (t : Addr) (xs : Array Value) (j : Nat) (dd : Option Addr) (sv : Array (Option Value)) :
    Meets (Builtin.«enumerate.__new__» ⟨[.type "enumerate", .ref t], []⟩)
      (fun _ R z => z.heap.get? t = some { cls := .type "tuple", dict := dd, data := .seq xs j, slots := sv } ∧
        R (.ok (.ret (.ref (z.heap.push (tupIt t)).objs.size))) { z with heap := (z.heap.push (tupIt t)).push (enumOver z.heap.objs.size) }) := by
  refine .of_wp fun prog w A R z hz => ?_
  obtain ⟨hp, gs, ds, tk, os⟩ := z
  obtain ⟨h1, h2⟩ := hz
  have sub := sub_enumerate
  have isT : Heap.IsTuple (Shared.heap ⟨hp, gs, ds, tk, os⟩) t xs := ⟨_, h1, rfl, j, rfl⟩
  wp_walk using wpAny_loadPart' h1
  refine wpAny_stack_any fun stk => wpAny_pure ?_
  split
  · next c _ _ _ _ _ =>
    cases c == Value.type "enumerate" <;>
    · wp_walk using wpAny_loadPart' h1, wpAny_pyIter_tuple isT
      exact ⟨_, rfl, h2⟩
  · wp_walk using wpAny_loadPart' h1, wpAny_pyIter_tuple isT
    exact ⟨_, rfl, h2⟩
theorem call_enumT {prog : Program} {w : World} {A : Around} {E : Value → Shared → Prop} {s : Shared} {t : Addr} {xs : Array Value} {Q : Value → Shared → Prop} (isT : s.heap.IsTuple t xs)
    (q : ∀ h', IsEnum h' (s.heap.objs.size + 1) s.heap.objs.size 0 .none → h'.IsTupleIter s.heap.objs.size t 0 → (∀ b o, s.heap.get? b = some o → h'.get? b = some o) → Q (.ref (s.heap.objs.size + 1)) { s with heap := h' }) :
    wpAny (model prog w) A (call (.type "enumerate") [.ref t]) Q E s := by
  obtain ⟨⟨c, dd, dt, sv⟩, h1, h2, j, h3⟩ := isT
  have h2 : c = .type "tuple" := h2
  have h3 : dt = .seq xs j := h3
  subst h2 h3
  refine callType_new F.called_enumerate (by decide) (F.typeCall_enumerate_1 _) (F.newCall_enumerate_1 _) (fun o => F.args_object_init_2 o _) F.entry_enumerate_new (new_enumT t xs j dd sv) ⟨h1, ?_⟩
  have size1 : (s.heap.push (tupIt t)).objs.size = s.heap.objs.size + 1 := Heap.size_push ..
  constructor
  · rw [size1]
    refine ⟨enumOver s.heap.objs.size, ?_, rfl⟩
    have := Heap.get?_push_size (s.heap.push (tupIt t)) (o := enumOver s.heap.objs.size) rfl
    rw [size1] at this
    exact this
  · rw [size1]
    refine q _ ?_ ⟨tupIt t, Heap.get?_push_of_some _ (Heap.get?_push_size _ rfl), rfl, rfl⟩ fun b o e => Heap.get?_push_of_some _ (Heap.get?_push_of_some _ e)
    have := Heap.get?_push_size (s.heap.push (tupIt t)) (o := enumOver s.heap.objs.size) rfl
    rw [size1] at this
    exact this
/-- the tuple at a, each item with its number in a new pair -/
def Itet (K : PySem.W.Frag) (a : Addr) : It where
  go := fun i H => ∃ (xs : List V) (x : V), SqT K H a xs ∧ xs[i]? = some x
  yld := fun i H v H' => ∃ T x, v = .ref T ∧ H T = none ∧ H' = upd H T (.tup [.int (i : Nat), x]) ∧ ∀ xs, SqT K H a xs → xs[i]? = some x
  stop := fun i H => ∃ xs : List V, SqT K H a xs ∧ xs.length ≤ i
theorem walk_enumT {K : PySem.W.Frag} {a : Addr} {xs : List V} : Walk (Itet K a) xs.length (fun H => SqT K H a xs) (YPair (fun i => some (.int (i : Nat))) (fun i => xs[i]?)) := by
  refine ⟨fun i H hi hq => ⟨xs, xs[i], hq, by simp [hi]⟩, fun H hq => ⟨xs, hq, Nat.le_refl _⟩, fun i H x H' hi hq hy => ?_⟩
  obtain ⟨T, y, e1, e2, e3, e4⟩ := hy
  exact ⟨T, _, y, e1, e2, e3, rfl, e4 xs hq⟩
theorem over_tuple {prog : Program} {w : World} {A : Around} (hh : A.handled = none) (it t : Addr) (i : Nat) (xs : Array Value) (hi : xs[i]? = none) :
    Draws prog w A it [it, t] i (fun _ _ => True) (fun j h => j = i ∧ h.IsTupleIter it t j ∧ h.IsTuple t xs) where
  live := fun j h z => by
    obtain ⟨_, ⟨o, ho, _⟩, _⟩ := z
    exact ⟨o, ho⟩
  frame := fun j h h' z k => ⟨z.1, z.2.1.at fun o e => k it List.mem_cons_self o e, z.2.2.at fun o e => k t (List.mem_cons_of_mem _ List.mem_cons_self) o e⟩
  item := fun j s Q E hj z _ => by
    have := z.1
    omega
  done := fun s Q E z hE => wpAny_nextOf_tuple_end hh z.2.1 z.2.2 hi hE
theorem turn_enumT {P : Program} {w : World} {K : PySem.W.Frag} {es : List Expr} {n : Nat} {tp : Pos} (a e it : Addr) (h1 : e ≠ it) (h2 : e ≠ a) (h3 : a ≠ it) :
    Turn P w K (.Tuple es n tp) (Itet K a) [e, it] e (fun i h => (∃ old, IsEnum h e it ((i : Nat) : Int) old) ∧ h.IsTupleIter it a i) where
  mem := List.mem_cons_self
  obj := by
    rintro i h ⟨⟨old, he⟩, o, ho, hc, hd⟩ b hb
    rcases List.mem_cons.mp hb with rfl | hb
    · exact ⟨_, he, fun v q => nomatch q⟩
    · rw [List.mem_singleton.mp hb]
      exact ⟨o, ho, fun v q => by rw [hd] at q; cases q⟩
  keep := by
    rintro i h h' ⟨⟨old, he⟩, hi⟩ k
    exact ⟨⟨old, k e List.mem_cons_self _ he⟩, hi.at fun o q => k it (List.mem_cons_of_mem _ List.mem_cons_self) o q⟩
  item := by
    rintro X rfl rfl rfl hc i pins s σ H E I hf ⟨⟨old, he⟩, hi⟩ ⟨xs, x, hq, hx⟩
    obtain ⟨its, rv, p, _⟩ := I.tuple hq
    obtain ⟨u, hu, ru⟩ := rv.get hx
    have hel : e < s.heap.objs.size := Heap.lt_size he
    have hil : it < s.heap.objs.size := by obtain ⟨_, q, _⟩ := hi; exact Heap.lt_size q
    have isT : s.heap.IsTuple a its.toArray := p
    have hlt : i < its.toArray.size := by
      have := (List.getElem?_eq_some_iff.mp hu).1
      simpa using this
    have nmem : e ∉ [it, a] := by simp [h1, h2]
    refine wpAny_pyNext_enum_itemD (Draws.tuple (A := X.A.in1) (I.ok.hd hc) it a h3 its.toArray) he ⟨hi, isT⟩ hlt h1 nmem fun y h' tk hy ho st' hT hsz hk => ?_
    have ey : y = u := by
      have hy : its.toArray[i]? = some y := hy
      rw [List.getElem?_toArray, hu] at hy
      exact (Option.some.inj hy).symm
    subst ey
    refine ⟨_, rfl, wpAny_letOwnedTupleGo_enum (s := { s with heap := h', toks := tk + 1 }) ho fun h'' he' sb => ?_⟩
    have hT2 : h''.get? s.heap.objs.size = some { cls := .type "tuple", data := .seq #[.int i tk, y] } := (sb.2 _ (Nat.ne_of_gt hel)).trans hT
    have new : ObjOk X.prog X.w (upd H s.heap.objs.size (.tup [.int (i : Nat), x])) h'' s.heap.objs.size (.tup [.int (i : Nat), x]) := by
      refine ⟨?_, [.int i tk, y], .cons ⟨_, rfl⟩ (.cons ru .nil), _, hT2, rfl, _, rfl⟩
      show 2 ≤ sizeLine
      decide
    have I1 : Inv X pins σ (upd H s.heap.objs.size (.tup [.int (i : Nat), x])) { s with heap := h'', toks := tk + 1 } := by
      refine I.turnedNew (ch := [e, it]) (fun b ob hb q => ?_) hf (Nat.le_refl _) new
      have hbe : b ≠ e := fun z => hb (by rw [z]; exact List.mem_cons_self)
      have hbi : b ≠ it := fun z => hb (by rw [z]; exact List.mem_cons_of_mem _ List.mem_cons_self)
      rw [sb.2 b hbe]
      exact hk b ob hbe hbi q
    refine ⟨.ref s.heap.objs.size, _, I1, rfl, ⟨_, x, rfl, I.hok.fresh (Nat.le_refl _), rfl, fun ys hy => by rw [I.tuple_inj hy hq]; exact hx⟩, ⟨⟨y, ?_⟩, st'.1.at fun o q => (sb.2 it h1.symm).trans q⟩, fun b hb => ?_⟩
    · rw [show ((i + 1 : Nat) : Int) = (i : Int) + 1 by omega]
      exact he'
    · have hb' : b < s.heap.objs.size := by
        rcases List.mem_cons.mp hb with z | z
        · rw [z]; exact hel
        · rw [List.mem_singleton.mp z]; exact hil
      rw [upd_ne (Nat.ne_of_lt hb')]
      exact (hf b hb).1
  done := by
    rintro X rfl rfl rfl hc i pins s σ H E I hf ⟨⟨old, he⟩, hi⟩ ⟨xs, hq, hx⟩
    obtain ⟨its, rv, p, _⟩ := I.tuple hq
    obtain ⟨f0, f1, f2, f3, f4, f5⟩ := hf it (List.mem_cons_of_mem _ List.mem_cons_self)
    have hl := rv.length
    have isT : s.heap.IsTuple a its.toArray := p
    exact wpAny_pyNext_enum_endD (over_tuple (A := X.A.in1) (I.ok.hd hc) it a i its.toArray (by simp; omega)) he ⟨rfl, hi, isT⟩ fun h' eb => ⟨rfl, I.turned (t' := s.toks) (fun b o hb q => eb b o hb q) f0 f1 f3 f4 f5⟩
  self := fun A i s Q E st h => by
    obtain ⟨⟨_, he⟩, _⟩ := st
    exact wpAny_pyIter_enum he h
/-- over a list or a tuple -/
def iEnumB (K : PySem.W.Frag) (ta : TA) : TI := fun σ H R => ta σ H fun vs H1 => ∃ a, vs = [.ref a] ∧ ((∃ xs, SqL K H1 a xs ∧ R (Ite K a) H1) ∨ ∃ xs, SqT K H1 a xs ∧ R (Itet K a) H1)
theorem pi_enumB {X : Cx} {e : Expr} {ta : TA} {p pos tp : Pos} {es : List Expr} {n : Nat} (hg : Gl X "enumerate") (hm : X.mg "enumerate" = none) (ha : PA X [e] ta) (hs : starEach [e] X.env = [(false, eval e X.env)]) :
    PI X (.Tuple es n tp) (.Call (.Name "enumerate" p) [e] [] pos) (iEnumB X.K ta) := by
  constructor
  intro pins s σ H R I h
  refine Call_ (ld_blt I hg hm boot_enumerate ?_)
  refine PyProof.Rows.callWith_type1 (thn (ha.run pos pins s σ H _ I h) fun us s1 hq => ?_) hs rfl
  obtain ⟨vs, H1, I1, r1, a, rfl, q⟩ := hq
  obtain rfl : us = [Value.ref a] := Vals.ref1 r1
  have fresh : ∀ b ∈ [s1.heap.objs.size + 1, s1.heap.objs.size], s1.heap.objs.size ≤ b := fun b hb => by
    rcases List.mem_cons.mp hb with z | z
    · omega
    · rw [List.mem_singleton.mp z]; exact Nat.le_refl _
  rcases q with ⟨xs, hx, q⟩ | ⟨xs, hx, q⟩
  · obtain ⟨its, rv, pl, _⟩ := I1.list hx
    refine call_enumerate_list pl.isList fun h' he hit _ k => wpAny_pyIter_enum he ?_
    have I2 : Inv X pins σ H1 { s1 with heap := h' } := I1.kept (t' := s1.toks) k
    exact ⟨_, _, _, _, H1, rfl, I2, turn_enum a (s1.heap.objs.size + 1) s1.heap.objs.size, ⟨⟨.none, he⟩, hit, Nat.succ_ne_self _⟩, fun b hb => I1.fpOk (fresh b hb) (I1.hok.fresh (fresh b hb)), q⟩
  · obtain ⟨its, rv, pt, _⟩ := I1.tuple hx
    have isT : s1.heap.IsTuple a its.toArray := pt
    have ha : a < s1.heap.objs.size := by
      obtain ⟨o, ho, _⟩ := isT
      exact Heap.lt_size ho
    refine call_enumT isT fun h' he hit k => wpAny_pyIter_enum he ?_
    have I2 : Inv X pins σ H1 { s1 with heap := h' } := I1.kept (t' := s1.toks) k
    refine ⟨_, _, _, _, H1, rfl, I2, turn_enumT a (s1.heap.objs.size + 1) s1.heap.objs.size (Nat.succ_ne_self _) (fun z => Nat.lt_irrefl _ (Nat.lt_of_lt_of_le ha (by rw [← z]; exact Nat.le_succ _))) (Nat.ne_of_lt ha), ⟨⟨.none, ?_⟩, hit⟩, fun b hb => I1.fpOk (fresh b hb) (I1.hok.fresh (fresh b hb)), q⟩
    exact he
end Fh
namespace Fh
open PySem L2 PyProof.Rows

section
variable {T : Type} {k : Tk T} {g : Glob T} {tb : Tb} {lv : Nat} {X : Cx}
/-! ### targets -/
theorem Okk.putS {H0 : Hp} {ρ : Ev} {σ : Sg} {F : Fz} {H : Hp} {i : Nat} {d : PD} {v : V} (o : Okk k X.K H0 ρ σ F H) (r : Rp X.K k.tv F H v d) (hi : i < ρ.length) : Okk k X.K H0 (put ρ i (.sh d)) (σ.set i (some v)) F H := by
  unfold put
  have hs : i < σ.length := by rw [← o.len]; exact hi
  refine ⟨by rw [List.length_set, List.length_set]; exact o.len, fun j s e => ?_, fun j ds w e1 eo e2 => ?_, fun j l ds es w e1 e2 eo1 eo2 e3 e4 => ?_⟩
  · by_cases h : i = j
    · subst h
      rw [List.getElem?_set_self hi] at e
      cases e
      exact ⟨v, List.getElem?_set_self hs, r⟩
    · rw [List.getElem?_set_ne h] at e ⊢
      exact o.sl j s e
  · by_cases h : i = j
    · subst h
      rw [List.getElem?_set_self hi] at e1
      cases e1
      cases eo
    · rw [List.getElem?_set_ne h] at e1 e2
      exact o.own j ds w e1 eo e2
  · by_cases h : i = j
    · subst h
      rw [List.getElem?_set_self hi] at e1
      cases e1
      cases eo1
    · by_cases h2 : i = l
      · subst h2
        rw [List.getElem?_set_self hi] at e2
        cases e2
        cases eo2
      · rw [List.getElem?_set_ne h] at e1 e3
        rw [List.getElem?_set_ne h2] at e2 e4
        exact o.sep j l ds es w e1 e2 eo1 eo2 e3 e4
theorem Okk.unset {H0 : Hp} {ρ : Ev} {σ : Sg} {F : Fz} {H : Hp} {i : Nat} (o : Okk k X.K H0 ρ σ F H) : Okk k X.K H0 (ρ.set i none) (σ.set i none) F H := by
  have key : ∀ (j : Nat) (s : Sl), (ρ.set i none)[j]? = some (some s) → i ≠ j ∧ ρ[j]? = some (some s) := fun j s e => by
    by_cases h : i = j
    · subst h
      by_cases hi : i < ρ.length
      · rw [List.getElem?_set_self hi] at e; cases e
      · rw [List.getElem?_eq_none (by rw [List.length_set]; omega)] at e; cases e
    · rw [List.getElem?_set_ne h] at e
      exact ⟨h, e⟩
  refine ⟨by rw [List.length_set, List.length_set]; exact o.len, fun j s e => ?_, fun j ds w e1 eo e2 => ?_, fun j l ds es w e1 e2 eo1 eo2 e3 e4 => ?_⟩
  · obtain ⟨h, e⟩ := key j s e
    rw [List.getElem?_set_ne h]
    exact o.sl j s e
  · obtain ⟨h, e1⟩ := key j _ e1
    rw [List.getElem?_set_ne h] at e2
    exact o.own j ds w e1 eo e2
  · obtain ⟨h, e1⟩ := key j _ e1
    obtain ⟨h2, e2⟩ := key l _ e2
    rw [List.getElem?_set_ne h] at e3
    rw [List.getElem?_set_ne h2] at e4
    exact o.sep j l ds es w e1 e2 eo1 eo2 e3 e4
theorem Okk.wipe {H0 : Hp} {ρ : Ev} {σ : Sg} {F : Fz} {H : Hp} (o : Okk k X.K H0 ρ σ F H) : ∀ vs : List Nat, Okk k X.K H0 (wipeE ρ vs) (L2.wipe σ vs) F H
  | [] => o
  | v :: vs => (Okk.wipe o vs).unset
/-- a target's reading -/
def RG (k : Tk T) (K : PySem.W.Frag) (gg : TG) (tg : Tg) : Prop := ∀ (H0 : Hp) (ρ : Ev) (σ : Sg) (F : Fz) (H : Hp) (d : PD) (v : V) (ρ' : Ev) (Q : Sg → Hp → Prop), Okk k K H0 ρ σ F H → Rp K k.tv F H v d → bindT tg d ρ = some ρ' →
  (∀ σ', Okk k K H0 ρ' σ' F H → σ'.length = σ.length → (∀ j, j ∉ tg.slots → σ'[j]? = σ[j]?) → Q σ' H) → gg v σ H Q
structure SG (k : Tk T) (X : Cx) (e : Expr) (tg : Tg) : Prop where
  ex : ∃ gg, PG X e gg ∧ RG k X.K gg tg
/-- a list of targets, as the rest of a tuple -/
structure SGs (k : Tk T) (X : Cx) (es : List Expr) (tg : Tg) : Prop where
  ex : ∃ gg : TGs, PGs X es gg ∧ ∀ (H0 : Hp) (ρ : Ev) (σ : Sg) (F : Fz) (H : Hp) (ds : List PD) (vs : List V) (ρ' : Ev) (Q : Sg → Hp → Prop), Okk k X.K H0 ρ σ F H → RpA X.K k.tv F H vs ds → bindT tg (.tuple ds) ρ = some ρ' →
    (∀ σ', Okk k X.K H0 ρ' σ' F H → σ'.length = σ.length → (∀ j, j ∉ tg.slots → σ'[j]? = σ[j]?) → Q σ' H) → gg vs σ H Q
theorem sg_name {i : Nat} {x : Str} {pos : Pos} (h : PG X (.Name x pos) (gName i)) : SG k X (.Name x pos) (.name i) :=
  ⟨_, h, fun H0 ρ σ F H d v ρ' Q o r e q => by
    rw [bindT] at e
    split at e
    · rename_i hi
      cases e
      exact q _ (o.putS r hi) (List.length_set ..) fun j hj => List.getElem?_set_ne (by simpa [Tg.slots, eq_comm] using hj)
    · cases e⟩
theorem sgs_nil : SGs k X [] .nil := ⟨_, pgs_nil, fun H0 ρ σ F H ds vs ρ' Q o r e q => by
  cases r with
  | nil =>
    rw [bindT] at e
    cases e
    exact ⟨rfl, q σ o rfl fun _ _ => rfl⟩
  | cons _ _ => simp [bindT] at e⟩
def nstT : Expr → Bool
  | .Starred _ _ => false
  | _ => true
theorem asg_cons {e : Expr} {es : List Expr} {env : Env} (h : nst e = true) : assignEach (e :: es) env = (false, assign e env) :: assignEach es env := by
  cases e <;> first | rfl | cases h
theorem asg_len {env : Env} : ∀ {es : List Expr}, es.all nst = true → (assignEach es env).length = es.length ∧ (assignEach es env).findIdx? (·.1) = none
  | [], _ => ⟨rfl, rfl⟩
  | e :: es, h => by
    rw [List.all_cons, Bool.and_eq_true] at h
    obtain ⟨h1, h2⟩ := asg_len (env := env) h.2
    rw [asg_cons h.1]
    refine ⟨by rw [List.length_cons, h1, List.length_cons], ?_⟩
    rw [List.findIdx?_cons]
    simp only [Bool.false_eq_true, if_false, h2]
    rfl
theorem sgs_cons {e : Expr} {es : List Expr} {a r : Tg} (hn : nst e = true) (h : SG k X e a) (hs : SGs k X es r) : SGs k X (e :: es) (.cons a r) := by
  obtain ⟨g1, p1, r1⟩ := h.ex
  obtain ⟨g2, p2, r2⟩ := hs.ex
  refine ⟨_, pgs_cons p1 p2 (by rw [asg_cons hn]; rfl), fun H0 ρ σ F H ds vs ρ' Q o rr e q => ?_⟩
  cases rr with
  | nil => simp [bindT] at e
  | cons rd rt =>
    rw [bindT] at e
    obtain ⟨ρ1, e1, e2⟩ := bind2 e
    refine ⟨_, _, rfl, r1 H0 ρ σ F H _ _ ρ1 _ o rd e1 fun σ1 o1 l1 k1 => ?_⟩
    refine r2 H0 ρ1 σ1 F H _ _ ρ' _ o1 rt e2 fun σ2 o2 l2 k2 => ?_
    refine q σ2 o2 (l2.trans l1) fun j hj => ?_
    rw [Tg.slots, List.mem_append, not_or] at hj
    rw [k2 j hj.2, k1 j hj.1]
theorem pg_or {e : Expr} {g1 g2 : TG} (h1 : PG X e g1) (h2 : PG X e g2) : PG X e (fun v σ H Q => g1 v σ H Q ∨ g2 v σ H Q) :=
  ⟨fun pins s σ H v u Q I r hw => hw.elim (fun hw => h1.run pins s σ H v u Q I r hw) (fun hw => h2.run pins s σ H v u Q I r hw)⟩
theorem sg_tup {es : List Expr} {n : Nat} {pos : Pos} {tg : Tg} (hc : X.calm = true) (hn : es.all nst = true) (ht : ∀ d ρ ρ', bindT tg d ρ = some ρ' → ∃ ds, (d = .tuple ds ∨ d = .list ds) ∧ ds.length = es.length ∧ bindT tg (.tuple ds) ρ = some ρ') (h : SGs k X es tg) : SG k X (.Tuple es n pos) tg := by
  obtain ⟨g1, p1, r1⟩ := h.ex
  obtain ⟨h1, h2⟩ := asg_len (env := X.env) hn
  refine ⟨_, pg_or (pg_tup hc p1 h1 h2) (pg_unl hc p1 h1 h2), fun H0 ρ σ F H d v ρ' Q o rr e q => ?_⟩
  obtain ⟨ds, hd, hl, e'⟩ := ht d ρ ρ' e
  rcases hd with rfl | rfl
  · cases rr with
    | tup hs ra => exact .inl ⟨_, _, rfl, hs.sq, by rw [ra.length]; exact hl, r1 H0 ρ σ F H ds _ ρ' Q o ra e' q⟩
  · cases rr with
    | lst hs ra => exact .inr ⟨_, _, rfl, hs.sq, by rw [ra.length]; exact hl, r1 H0 ρ σ F H ds _ ρ' Q o ra e' q⟩
/-- a tuple's targets: as many as there are names -/
def Tg.len : Tg → Option Nat
  | .nil => some 0
  | .cons _ r => r.len.map (· + 1)
  | .name _ => none
theorem bind_len : ∀ {tg : Tg} {n : Nat}, tg.len = some n → ∀ d ρ ρ', bindT tg d ρ = some ρ' → ∃ ds, (d = .tuple ds ∨ d = .list ds) ∧ ds.length = n ∧ bindT tg (.tuple ds) ρ = some ρ'
  | .nil, n, h, d, ρ, ρ', e => by
    cases h
    have e0 := e
    unfold bindT at e
    split at e
    all_goals first | contradiction | skip
    · exact ⟨[], .inl rfl, rfl, e0⟩
    · exact ⟨[], .inr rfl, rfl, e0⟩
    all_goals cases e
  | .cons a r, n, h, d, ρ, ρ', e => by
    rw [Tg.len] at h
    obtain ⟨m, hm, rfl⟩ := Option.map_eq_some_iff.mp h
    have e0 := e
    unfold bindT at e
    split at e
    all_goals first | contradiction | skip
    · rename_i a' r' d' ds hh
      cases hh
      obtain ⟨ρ1, e1, e2⟩ := bind2 e
      obtain ⟨ds', h1, h2, _⟩ := bind_len hm _ _ _ e2
      rcases h1 with h1 | h1
      · cases h1
        exact ⟨d' :: ds, .inl rfl, by rw [List.length_cons, h2], e0⟩
      · cases h1
    · rename_i a' r' d' ds hh
      cases hh
      obtain ⟨ρ1, e1, e2⟩ := bind2 e
      obtain ⟨ds', h1, h2, _⟩ := bind_len hm _ _ _ e2
      rcases h1 with h1 | h1
      · cases h1
        exact ⟨d' :: ds, .inr rfl, by rw [List.length_cons, h2], e0⟩
      · cases h1
    all_goals cases e

/-! ### what is walked -/
def WkF (k : Tk T) (K : PySem.W.Frag) (J : It) (F1 : Fz) (H1 : Hp) (ds : List PD) : Prop :=
  ∃ (G : Hp → Prop) (Y : Nat → Hp → V → Hp → Prop), L2.Walk J ds.length G Y ∧ (∀ F H, Lw F1 H1 F H → G H) ∧
    ∀ (i : Nat) (H : Hp) (x : V) (H' : Hp), i < ds.length → Y i H x H' → ∀ (F : Fz) (τ : T), Lw F1 H1 F H → Gd k τ F H → Le k.Z F H F H' ∧ Gd k τ F H' ∧ ∃ d, ds[i]? = some d ∧ Rp K k.tv F H' x d
def RI (k : Tk T) (g : Glob T) (X : Cx) (wi : TI) (it : Ir) : Prop := ∀ (H0 : Hp) (ρ : Ev) (τ : T) (σ : Sg) (F : Fz) (H : Hp) (ds : List PD) (τ' : T) (R : It → Hp → Prop), Okk k X.K H0 ρ σ F H → Gd k τ F H → items g it ρ τ = some (ds, τ') →
  (∀ J F' H', Le k.Z F H F' H' → Gd k τ' F' H' → WkF k X.K J F' H' ds → R J H') → wi σ H R
structure SI (k : Tk T) (g : Glob T) (X : Cx) (tg e : Expr) (it : Ir) : Prop where
  ex : ∃ wi, PI X tg e wi ∧ RI k g X wi it
  hs : ∀ x, foldedSetIterable e X.env x = pure x
/-- what is walked while all things but the state's stand as they stand -/
def WkE (k : Tk T) (K : PySem.W.Frag) (J : It) (F1 : Fz) (H1 : Hp) (ds : List PD) : Prop :=
  ∃ (G : Hp → Prop) (Y : Nat → Hp → V → Hp → Prop), L2.Walk J ds.length G Y ∧ (∀ F H, Le k.Z F1 H1 F H → G H) ∧
    ∀ (i : Nat) (H : Hp) (x : V) (H' : Hp), i < ds.length → Y i H x H' → ∀ (F : Fz) (τ : T), Le k.Z F1 H1 F H → Gd k τ F H → Le k.Z F H F H' ∧ Gd k τ F H' ∧ ∃ d, ds[i]? = some d ∧ Rp K k.tv F H' x d
def RIE (k : Tk T) (g : Glob T) (X : Cx) (wi : TI) (it : Ir) : Prop := ∀ (H0 : Hp) (ρ : Ev) (τ : T) (σ : Sg) (F : Fz) (H : Hp) (ds : List PD) (τ' : T) (R : It → Hp → Prop), Okk k X.K H0 ρ σ F H → Gd k τ F H → items g it ρ τ = some (ds, τ') →
  (∀ J F' H', Le k.Z F H F' H' → Gd k τ' F' H' → WkE k X.K J F' H' ds → R J H') → wi σ H R
structure SIE (k : Tk T) (g : Glob T) (X : Cx) (tg e : Expr) (it : Ir) : Prop where
  ex : ∃ wi, PI X tg e wi ∧ RIE k g X wi it
  hs : ∀ x, foldedSetIterable e X.env x = pure x
theorem WkF.e {k : Tk T} {K : PySem.W.Frag} {J : It} {F1 : Fz} {H1 : Hp} {ds : List PD} {τ : T} (g : Gd k τ F1 H1) (h : WkF k K J F1 H1 ds) : WkE k K J F1 H1 ds := by
  obtain ⟨G, Y, w, h1, h2⟩ := h
  exact ⟨G, Y, w, fun F H l => h1 F H (l.lw g), fun i H x H' hi y F τ l => h2 i H x H' hi y F τ (l.lw g)⟩
theorem SI.e {k : Tk T} {g : Glob T} {X : Cx} {tg e : Expr} {it : Ir} (h : SI k g X tg e it) : SIE k g X tg e it := by
  obtain ⟨wi, p, r⟩ := h.ex
  exact ⟨⟨wi, p, fun H0 ρ τ σ F H ds τ' R ok gd e q => r H0 ρ τ σ F H ds τ' R ok gd e fun J F' H' l g wk => q J F' H' l g (wk.e g)⟩, h.hs⟩
theorem fold_call {f : Expr} {es : List Expr} {kw : List Keyword} {pos : Pos} {env : Env} (x : Value) : foldedSetIterable (.Call f es kw pos) env x = pure x := rfl
theorem rangeD_len : ∀ (n : Nat) (lo : Int), (rangeD lo n).length = n
  | 0, _ => rfl
  | n + 1, lo => by rw [rangeD, List.length_cons, rangeD_len n]
theorem rangeD_get : ∀ (n : Nat) (lo : Int) (i : Nat), i < n → (rangeD lo n)[i]? = some (.int (lo + i))
  | 0, _, _, h => absurd h (Nat.not_lt_zero _)
  | n + 1, lo, 0, _ => by rw [rangeD]; simp
  | n + 1, lo, i + 1, h => by
    rw [rangeD, List.getElem?_cons_succ, rangeD_get n (lo + 1) i (by omega)]
    congr 2
    omega
theorem stepD_len (c : Int) : ∀ (n : Nat) (lo : Int), (stepD lo c n).length = n
  | 0, _ => rfl
  | n + 1, lo => by rw [stepD, List.length_cons, stepD_len c n]
theorem stepD_get (c : Int) : ∀ (n : Nat) (lo : Int) (i : Nat), i < n → (stepD lo c n)[i]? = some (.int (lo + i * c))
  | 0, _, _, h => absurd h (Nat.not_lt_zero _)
  | n + 1, lo, 0, _ => by rw [stepD]; simp
  | n + 1, lo, i + 1, h => by
    rw [stepD, List.getElem?_cons_succ, stepD_get c n (lo + c) i (by omega)]
    congr 2
    rw [Int.natCast_add, Int.add_mul]
    omega
theorem wk_range {F1 : Fz} {H1 : Hp} {lo : Int} {n : Nat} : WkF k X.K (Itr lo n) F1 H1 (rangeD lo n) := by
  refine ⟨_, _, (by rw [rangeD_len]; exact walk_range), fun _ _ _ => trivial, fun i H x H' hi y F τ l gd => ?_⟩
  rw [rangeD_len] at hi
  obtain ⟨rfl, rfl⟩ := y
  exact ⟨.refl _ _ _, gd, _, rangeD_get n lo i hi, .int _⟩
theorem wk_step {F1 : Fz} {H1 : Hp} {lo c : Int} {n : Nat} : WkF k X.K (Itc lo c n) F1 H1 (stepD lo c n) := by
  refine ⟨_, _, (by rw [stepD_len]; exact walk_rangeC), fun _ _ _ => trivial, fun i H x H' hi y F τ l gd => ?_⟩
  rw [stepD_len] at hi
  obtain ⟨rfl, rfl⟩ := y
  exact ⟨.refl _ _ _, gd, _, stepD_get c n lo i hi, .int _⟩
theorem smallR_iff {i : Int} (h : smallR i = true) : -(2 ^ 62) ≤ i ∧ i < 2 ^ 62 := by
  unfold smallR at h
  rw [Bool.and_eq_true] at h
  exact ⟨of_decide_eq_true h.1, of_decide_eq_true h.2⟩
theorem si_rng1 {tg e : Expr} {p pos : Pos} {a : E} (G : GOk k g tb lv X) (hg : Gl X "range") (hx : ("range" : Str) ∈ tb.bl) (hn : nst e = true) (ha : SE k g X e a) : SI k g X tg (.Call (.Name "range" p) [e] [] pos) (.rng1 a) := by
  obtain ⟨t, pe, _, b, _⟩ := ha.ex
  refine ⟨⟨_, pi_range1 hg (G.blt _ hx) (pa_cons pe pa_nil (star_cons hn)) (star_cons hn), fun H0 ρ τ σ F H ds τ' R ok gd e q => ?_⟩, fold_call⟩
  rw [items] at e
  obtain ⟨⟨x, τ1⟩, e1, e⟩ := bind2 e
  refine b H0 ρ τ σ F H x τ1 _ ok gd e1 fun v F1 H1 l1 g1 r1 => ?_
  cases x with
  | int j =>
    simp only at e
    split at e
    · rename_i hs
      cases e
      cases r1.int
      have h := smallR_iff hs
      exact ⟨j, rfl, h.1, h.2, q _ F1 H1 l1 g1 wk_range⟩
    · cases e
  | _ => cases e
theorem si_rng2 {tg e f : Expr} {p pos : Pos} {a b : E} (G : GOk k g tb lv X) (hg : Gl X "range") (hx : ("range" : Str) ∈ tb.bl) (hn : nst e = true) (hn2 : nst f = true) (ha : SE k g X e a) (hb : SE k g X f b) : SI k g X tg (.Call (.Name "range" p) [e, f] [] pos) (.rng2 a b) := by
  obtain ⟨t, pe, _, b1, _⟩ := ha.ex
  obtain ⟨t2, pf, _, b2, _⟩ := hb.ex
  have h2 : starEach [f] X.env = (false, eval f X.env) :: starEach [] X.env := star_cons hn2
  have h1 : starEach [e, f] X.env = (false, eval e X.env) :: starEach [f] X.env := star_cons hn
  refine ⟨⟨_, pi_range2 hg (G.blt _ hx) (pa_cons pe (pa_cons pf pa_nil h2) h1) (by rw [h1, h2]; rfl) h2, fun H0 ρ τ σ F H ds τ' R ok gd e q => ?_⟩, fold_call⟩
  rw [items] at e
  obtain ⟨⟨x, τ1⟩, e1, e⟩ := bind2 e
  obtain ⟨⟨y, τ2⟩, e2, e⟩ := bind2 e
  show t σ H fun v H1 => t2 σ H1 fun w H2 => ∃ i j, [v, w] = [.int i, .int j] ∧ _ ∧ _
  refine two b1 b2 ok gd e1 e2 fun v w F' H' l g' rv rw' => ?_
  simp only at e
  split at e
  · split at e
    · rename_i hs
      rw [Bool.and_eq_true] at hs
      cases e
      cases rv.int
      cases rw'.int
      have h1 := smallR_iff hs.1
      have h2 := smallR_iff hs.2
      exact ⟨_, _, rfl, ⟨h1.1, h1.2, h2.1, h2.2⟩, q _ F' H' l g' wk_range⟩
    · cases e
  · cases e
theorem rangeSize_nn {a b c : Int} (h : c ≠ 0) : 0 ≤ Builtin.Range.rangeSize a b c := by
  unfold Builtin.Range.rangeSize
  split
  · split
    · have := Int.ediv_nonneg (a := b - a - 1) (b := c) (by omega) (by omega)
      omega
    · omega
  · split
    · have := Int.ediv_nonneg (a := a - b - 1) (b := -c) (by omega) (by omega)
      omega
    · omega
theorem si_rngC {tg e f h : Expr} {p pos : Pos} {a b : E} {c : Int} (G : GOk k g tb lv X) (hg : Gl X "range") (hx : ("range" : Str) ∈ tb.bl) (hn : nst e = true) (hn2 : nst f = true) (hn3 : nst h = true) (ha : SE k g X e a) (hb : SE k g X f b) (hc : PE X h (fun _ H Q => Q (.int c) H)) :
    SI k g X tg (.Call (.Name "range" p) [e, f, h] [] pos) (.rngC a b c) := by
  obtain ⟨t, pe, _, b1, _⟩ := ha.ex
  obtain ⟨t2, pf, _, b2, _⟩ := hb.ex
  have h3 : starEach [h] X.env = (false, eval h X.env) :: starEach [] X.env := star_cons hn3
  have h2 : starEach [f, h] X.env = (false, eval f X.env) :: starEach [h] X.env := star_cons hn2
  have h1 : starEach [e, f, h] X.env = (false, eval e X.env) :: starEach [f, h] X.env := star_cons hn
  refine ⟨⟨_, pi_range3 hg (G.blt _ hx) (pa_cons pe (pa_cons pf (pa_cons hc pa_nil h3) h2) h1) h1 (by rw [h2, h3]; rfl), fun H0 ρ τ σ F H ds τ' R ok gd e q => ?_⟩, fold_call⟩
  rw [items] at e
  obtain ⟨⟨x, τ1⟩, e1, e⟩ := bind2 e
  obtain ⟨⟨y, τ2⟩, e2, e⟩ := bind2 e
  show t σ H fun v H1 => t2 σ H1 fun w H2 => ∃ (i j c' : Int) (n : Nat), [v, w, .int c] = [.int i, .int j, .int c'] ∧ _ ∧ _
  refine two b1 b2 ok gd e1 e2 fun v w F' H' l g' rv rw' => ?_
  simp only at e
  split at e
  · split at e
    · rename_i hs
      rw [Bool.and_eq_true, Bool.and_eq_true] at hs
      cases e
      cases rv.int
      cases rw'.int
      have hc0 : c ≠ 0 := of_decide_eq_true hs.1.1
      exact ⟨_, _, c, _, rfl, ⟨hc0, of_decide_eq_true hs.1.2, hs.2, (Int.toNat_of_nonneg (rangeSize_nn hc0)).symm⟩, q _ F' H' l g' wk_step⟩
    · cases e
  · cases e
/-! over a list, a tuple, a text -/
def iSeq (K : PySem.W.Frag) (te : TE) : TI := fun σ H R => te σ H fun v H1 => (∃ a, v = .ref a ∧ (∃ xs, SqL K H1 a xs) ∧ R (Itl K a) H1) ∨ (∃ a, v = .ref a ∧ (∃ xs, SqT K H1 a xs) ∧ R (Itt K a) H1) ∨ ∃ x, v = .str x ∧ R (Its x) H1
theorem pi_seq {tg l : Expr} {tl : TE} (hl : PE X l tl) : PI X tg l (iSeq X.K tl) := by
  refine ⟨fun pins s σ H R I h => ?_⟩
  refine thn (hl.run pins s σ H _ I h) fun v s1 ⟨x, H1, I1, r1, q1⟩ => ?_
  rcases q1 with ⟨a, rfl, ⟨xs, hq⟩, q⟩ | ⟨a, rfl, ⟨xs, hq⟩, q⟩ | ⟨z, rfl, q⟩
  · cases r1
    obtain ⟨its, rv, p, hz⟩ := I1.list hq
    exact wpAny_pyIter_list p.isList (pi_one (tk := s1.toks) I1 _ (turn_list a _) ⟨_, Heap.get?_push_size _ rfl, rfl, rfl⟩ q)
  · cases r1
    obtain ⟨its, rv, p, hz⟩ := I1.tuple hq
    exact wpAny_pyIter_tuple (show s1.heap.IsTuple a its.toArray from p) (pi_one (tk := s1.toks) I1 _ (turn_tuple a _) ⟨_, Heap.get?_push_size _ rfl, rfl, rfl⟩ q)
  · obtain ⟨t, rfl⟩ := r1
    cases ha : z.cps.all (· < 128)
    · exact wpAny_pyIter_wide ha (pi_one (tk := s1.toks) I1 _ (turn_str _ z t "str_iterator" (.inr rfl)) ⟨_, Heap.get?_push_size _ rfl, rfl, rfl⟩ q)
    · exact wpAny_pyIter_ascii ha (pi_one (tk := s1.toks) I1 _ (turn_str _ z t "str_ascii_iterator" (.inl rfl)) ⟨_, Heap.get?_push_size _ rfl, rfl, rfl⟩ q)
theorem rp_at {F : Fz} {H : Hp} {xs : List V} {ds : List PD} (r : RpA X.K k.tv F H xs ds) {i : Nat} {x : V} (h : xs[i]? = some x) : ∃ d, ds[i]? = some d ∧ Rp X.K k.tv F H x d := by
  have hi : i < ds.length := by rw [← r.length]; exact (List.getElem?_eq_some_iff.mp h).1
  obtain ⟨v, e1, e2⟩ := r.get (List.getElem?_eq_getElem hi)
  rw [h] at e1
  cases e1
  exact ⟨_, List.getElem?_eq_getElem hi, e2⟩
theorem itemsOf_conD (ds : List PD) : itemsOf (conD ds) = some ds := by
  show some ((ds.map fun d => (PyData.none, d)).map (·.2)) = some ds
  rw [List.map_map]
  congr 1
  exact List.map_id ds
theorem wk_list {F1 : Fz} {H1 : Hp} {a : Addr} {xs : List V} {ds : List PD} (h : Lk X.K F1 H1 a xs) (r : RpA X.K k.tv F1 H1 xs ds) : WkF k X.K (Itl X.K a) F1 H1 ds := by
  refine ⟨fun H => SqL X.K H a xs, YAt xs, by rw [← r.length]; exact walk_list, fun F H l => (h.lw l).sq, fun i H x H' hi y F τ l gd => ?_⟩
  obtain ⟨rfl, hx⟩ := y
  obtain ⟨d, e1, e2⟩ := rp_at (r.lw l) hx
  exact ⟨.refl _ _ _, gd, d, e1, e2⟩
theorem wk_tup {F1 : Fz} {H1 : Hp} {a : Addr} {xs : List V} {ds : List PD} (h : SqT X.K H1 a xs) (r : RpA X.K k.tv F1 H1 xs ds) : WkF k X.K (Itt X.K a) F1 H1 ds := by
  refine ⟨fun H => SqT X.K H a xs, YAt xs, by rw [← r.length]; exact walk_tup, fun F H l => SqT.lw l h, fun i H x H' hi y F τ l gd => ?_⟩
  obtain ⟨rfl, hx⟩ := y
  obtain ⟨d, e1, e2⟩ := rp_at (r.lw l) hx
  exact ⟨.refl _ _ _, gd, d, e1, e2⟩
theorem wk_str {F1 : Fz} {H1 : Hp} {z : Str} : WkF k X.K (Its z) F1 H1 (z.cps.toList.map fun c => .str ⟨#[c]⟩) := by
  refine ⟨_, _, by rw [List.length_map, Array.length_toList]; exact walk_str, fun _ _ _ => trivial, fun i H x H' hi y F τ l gd => ?_⟩
  obtain ⟨rfl, c, hc, rfl⟩ := y
  exact ⟨.refl _ _ _, gd, _, by rw [List.getElem?_map, Array.getElem?_toList, hc]; rfl, .str _⟩
theorem si_seq {tg e : Expr} {m : E} (h : SE k g X e m) (hp : m.isPk = false) (hs : ∀ x, foldedSetIterable e X.env x = pure x) : SI k g X tg e (.seq m) := by
  obtain ⟨t, pe, x, _, _⟩ := h.ex
  refine ⟨⟨_, pi_seq pe, fun H0 ρ τ σ F H ds τ' R ok gd e q => ?_⟩, hs⟩
  rw [items] at e
  obtain ⟨⟨d, τ1⟩, e1, e⟩ := bind2 e
  obtain ⟨ds', e2, e3⟩ := Option.map_eq_some_iff.mp e
  cases e3
  refine x hp H0 ρ τ σ F H d _ _ ok gd e1 fun v F1 H1 l1 g1 r1 => ?_
  cases d with
  | list xs =>
    cases e2
    cases r1 with
    | lst h ra => exact .inl ⟨_, rfl, ⟨_, h.sq⟩, q _ F1 H1 l1 g1 (wk_list h ra)⟩
  | tuple xs =>
    cases e2
    cases r1 with
    | tup h ra => exact .inr (.inl ⟨_, rfl, ⟨_, h.sq⟩, q _ F1 H1 l1 g1 (wk_tup h.sq ra)⟩)
  | str z =>
    simp only at e2
    rw [itemsOf] at e2
    split at e2
    · cases e2
      cases r1
      exact .inr (.inr ⟨_, rfl, q _ F1 H1 l1 g1 wk_str⟩)
    · cases e2
  | dict m =>
    cases r1 with
    | tok => cases e2
    | dct => cases e2
    | @ctp a xs dd h ra =>
      have e3 : itemsOf (conD dd) = _ := e2
      rw [itemsOf_conD] at e3
      cases e3
      exact .inr (.inl ⟨_, rfl, ⟨_, h⟩, q _ F1 H1 l1 g1 (wk_tup h ra)⟩)
  | _ => cases e2
/-- over a list that is still owned, in a comprehension -/
theorem wk_own {τ : T} {F1 : Fz} {H1 : Hp} {a : Addr} {xs : List V} {ds : List PD} (g1 : Gd k τ F1 H1) (nz : ¬ k.Z a) (h : H1 a = some (.lst xs)) (r : RpA X.K k.tv F1 H1 xs ds) : WkE k X.K (Itl X.K a) F1 H1 ds := by
  refine ⟨fun H => SqL X.K H a xs, YAt xs, by rw [← r.length]; exact walk_list, fun F H l => SqL.of (l.keep _ _ h nz), fun i H x H' hi y F τ l gd => ?_⟩
  obtain ⟨rfl, hx⟩ := y
  obtain ⟨d, e1, e2⟩ := rp_at (r.lw (l.lw g1)) hx
  exact ⟨.refl _ _ _, gd, d, e1, e2⟩
theorem sie_seq {tg e : Expr} {m : E} (h : SE k g X e m) (hs : ∀ x, foldedSetIterable e X.env x = pure x) : SIE k g X tg e (.seq m) := by
  obtain ⟨t, pe, _, x, _⟩ := h.ex
  refine ⟨⟨_, pi_seq pe, fun H0 ρ τ σ F H ds τ' R ok gd e q => ?_⟩, hs⟩
  rw [items] at e
  obtain ⟨⟨d, τ1⟩, e1, e⟩ := bind2 e
  obtain ⟨ds', e2, e3⟩ := Option.map_eq_some_iff.mp e
  cases e3
  refine x H0 ρ τ σ F H d _ _ ok gd e1 fun v F1 H1 l1 g1 r1 => ?_
  rcases r1 with r1 | ⟨a, xs, ds2, rfl, rfl, nz, hH, ra⟩
  · cases d with
    | list xs =>
      cases e2
      cases r1 with
      | lst h ra => exact .inl ⟨_, rfl, ⟨_, h.sq⟩, q _ F1 H1 l1 g1 ((wk_list h ra).e g1)⟩
    | tuple xs =>
      cases e2
      cases r1 with
      | tup h ra => exact .inr (.inl ⟨_, rfl, ⟨_, h.sq⟩, q _ F1 H1 l1 g1 ((wk_tup h.sq ra).e g1)⟩)
    | str z =>
      simp only at e2
      rw [itemsOf] at e2
      split at e2
      · cases e2
        cases r1
        exact .inr (.inr ⟨_, rfl, q _ F1 H1 l1 g1 (wk_str.e g1)⟩)
      · cases e2
    | dict m =>
      cases r1 with
      | tok => cases e2
      | dct => cases e2
      | @ctp a xs dd h ra =>
        have e3 : itemsOf (conD dd) = _ := e2
        rw [itemsOf_conD] at e3
        cases e3
        exact .inr (.inl ⟨_, rfl, ⟨_, h⟩, q _ F1 H1 l1 g1 ((wk_tup h ra).e g1)⟩)
    | _ => cases e2
  · cases e2
    exact .inl ⟨a, rfl, ⟨xs, SqL.of hH⟩, q _ F1 H1 l1 g1 (wk_own g1 nz hH ra)⟩
/-! enumerate, zip, reversed -/
theorem enumD_get : ∀ (ds : List PD) (j : Int) (i : Nat) (d : PD), ds[i]? = some d → (enumD j ds)[i]? = some (.tuple [.int (j + i), d])
  | [], _, _, _, h => by simp at h
  | d :: ds, j, 0, x, h => by simp at h; subst h; rw [enumD]; simp
  | d :: ds, j, i + 1, x, h => by
    rw [enumD, List.getElem?_cons_succ, enumD_get ds (j + 1) i x (by simpa using h)]
    congr 4
    omega
theorem enumD_len : ∀ (ds : List PD) (j : Int), (enumD j ds).length = ds.length
  | [], _ => rfl
  | d :: ds, j => by rw [enumD, List.length_cons, enumD_len ds, List.length_cons]
theorem zipD_len : ∀ (as bs : List PD), (zipD as bs).length = min as.length bs.length
  | [], bs => by simp [zipD]
  | a :: as, [] => by simp [zipD]
  | a :: as, b :: bs => by
    rw [zipD, List.length_cons, zipD_len as bs, List.length_cons, List.length_cons]
    omega
theorem zipD_get : ∀ (as bs : List PD) (i : Nat) (a b : PD), as[i]? = some a → bs[i]? = some b → (zipD as bs)[i]? = some (.tuple [a, b])
  | [], _, _, _, _, h, _ => by simp at h
  | _ :: _, [], _, _, _, _, h => by simp at h
  | x :: as, y :: bs, 0, a, b, h1, h2 => by simp at h1 h2; subst h1; subst h2; rw [zipD]; simp
  | x :: as, y :: bs, i + 1, a, b, h1, h2 => by
    rw [zipD, List.getElem?_cons_succ, zipD_get as bs i a b (by simpa using h1) (by simpa using h2)]
theorem pair_new {F : Fz} {H : Hp} {τ : T} {Tp : Addr} {x y : V} {d e : PD} (gd : Gd k τ F H) (hn : H Tp = none) (h1 : Rp X.K k.tv F H x d) (h2 : Rp X.K k.tv F H y e) :
    Le k.Z F H F (upd H Tp (.tup [x, y])) ∧ Gd k τ F (upd H Tp (.tup [x, y])) ∧ Rp X.K k.tv F (upd H Tp (.tup [x, y])) (.ref Tp) (.tuple [d, e]) :=
  ⟨le_new (.refl _ _ _) hn, gd_new gd hn, rp_tup gd hn (.cons h1 (.cons h2 .nil))⟩
theorem wk_enum {F1 : Fz} {H1 : Hp} {a : Addr} {xs : List V} {ds : List PD} (h : Lk X.K F1 H1 a xs) (r : RpA X.K k.tv F1 H1 xs ds) : WkF k X.K (Ite X.K a) F1 H1 (enumD 0 ds) := by
  refine ⟨fun H => SqL X.K H a xs, _, by rw [enumD_len, ← r.length]; exact walk_enum, fun F H l => (h.lw l).sq, fun i H x H' hi y F τ l gd => ?_⟩
  obtain ⟨Tp, u, w, rfl, hn, rfl, e1, e2⟩ := y
  cases e1
  obtain ⟨d, e3, e4⟩ := rp_at (r.lw l) e2
  obtain ⟨q1, q2, q3⟩ := pair_new gd hn (.int (i : Nat)) e4
  refine ⟨q1, q2, _, ?_, q3⟩
  rw [enumD_get ds 0 i d e3, Int.zero_add]
theorem wk_enumT {F1 : Fz} {H1 : Hp} {a : Addr} {xs : List V} {ds : List PD} (h : SqT X.K H1 a xs) (r : RpA X.K k.tv F1 H1 xs ds) : WkF k X.K (Itet X.K a) F1 H1 (enumD 0 ds) := by
  refine ⟨fun H => SqT X.K H a xs, _, by rw [enumD_len, ← r.length]; exact walk_enumT, fun F H l => SqT.lw l h, fun i H x H' hi y F τ l gd => ?_⟩
  obtain ⟨Tp, u, w, rfl, hn, rfl, e1, e2⟩ := y
  cases e1
  obtain ⟨d, e3, e4⟩ := rp_at (r.lw l) e2
  obtain ⟨q1, q2, q3⟩ := pair_new gd hn (.int (i : Nat)) e4
  refine ⟨q1, q2, _, ?_, q3⟩
  rw [enumD_get ds 0 i d e3, Int.zero_add]
theorem wk_zip {F1 : Fz} {H1 : Hp} {a b : Addr} {xs ys : List V} {ds es : List PD} (h : Lk X.K F1 H1 a xs) (h2 : Lk X.K F1 H1 b ys) (r : RpA X.K k.tv F1 H1 xs ds) (r2 : RpA X.K k.tv F1 H1 ys es) : WkF k X.K (Itz X.K a b) F1 H1 (zipD ds es) := by
  refine ⟨fun H => SqL X.K H a xs ∧ SqL X.K H b ys, _, walk_zip (by rw [zipD_len, r.length, r2.length]), fun F H l => ⟨(h.lw l).sq, (h2.lw l).sq⟩, fun i H x H' hi y F τ l gd => ?_⟩
  obtain ⟨Tp, u, w, rfl, hn, rfl, e1, e2⟩ := y
  obtain ⟨d, e3, e4⟩ := rp_at (r.lw l) e1
  obtain ⟨d2, e5, e6⟩ := rp_at (r2.lw l) e2
  obtain ⟨q1, q2, q3⟩ := pair_new gd hn e4 e6
  exact ⟨q1, q2, _, zipD_get ds es i d d2 e3 e5, q3⟩
theorem walk_zipT {K : PySem.W.Frag} {a b : Addr} {xs ys : List V} {n : Nat} (hn : n = min xs.length ys.length) : Walk (RZ.ItzT K a b) n (fun H => SqT K H a xs ∧ SqT K H b ys) (YPair (fun i => xs[i]?) (fun i => ys[i]?)) := by
  subst hn
  refine ⟨fun i _ hi q => ?_, fun _ q => ⟨xs, ys, q.1, q.2, by omega⟩, fun i H v H' _ q y => ?_⟩
  · have h1 : i < xs.length := by omega
    have h2 : i < ys.length := by omega
    exact ⟨xs, ys, xs[i], ys[i], q.1, q.2, by simp [h1], by simp [h2]⟩
  · obtain ⟨T, x, z, h1, h2, h3, h4, h5⟩ := y
    exact ⟨T, x, z, h1, h2, h3, h4 xs q.1, h5 ys q.2⟩
theorem wk_zipT {F1 : Fz} {H1 : Hp} {a b : Addr} {xs ys : List V} {ds es : List PD} (h : SqT X.K H1 a xs) (h2 : SqT X.K H1 b ys) (r : RpA X.K k.tv F1 H1 xs ds) (r2 : RpA X.K k.tv F1 H1 ys es) : WkF k X.K (RZ.ItzT X.K a b) F1 H1 (zipD ds es) := by
  refine ⟨fun H => SqT X.K H a xs ∧ SqT X.K H b ys, _, walk_zipT (by rw [zipD_len, r.length, r2.length]), fun F H l => ⟨SqT.lw l h, SqT.lw l h2⟩, fun i H x H' hi y F τ l gd => ?_⟩
  obtain ⟨Tp, u, w, rfl, hn, rfl, e1, e2⟩ := y
  obtain ⟨d, e3, e4⟩ := rp_at (r.lw l) e1
  obtain ⟨d2, e5, e6⟩ := rp_at (r2.lw l) e2
  obtain ⟨q1, q2, q3⟩ := pair_new gd hn e4 e6
  exact ⟨q1, q2, _, zipD_get ds es i d d2 e3 e5, q3⟩
theorem wk_rev {F1 : Fz} {H1 : Hp} {a : Addr} {xs : List V} {ds : List PD} (h : Lk X.K F1 H1 a xs) (r : RpA X.K k.tv F1 H1 xs ds) : WkF k X.K (Itv X.K a xs.length) F1 H1 ds.reverse := by
  refine ⟨fun H => SqL X.K H a xs, _, by rw [List.length_reverse, ← r.length]; exact walk_rev, fun F H l => (h.lw l).sq, fun i H x H' hi y F τ l gd => ?_⟩
  obtain ⟨rfl, hx⟩ := y
  obtain ⟨d, e1, e2⟩ := rp_at (r.lw l) hx
  rw [List.length_reverse] at hi
  refine ⟨.refl _ _ _, gd, d, ?_, e2⟩
  rw [List.getElem?_reverse hi, ← r.length]
  exact e1
theorem walk_revT {K : PySem.W.Frag} {a : Addr} {xs : List V} : Walk (RT.ItvT K a xs.length) xs.length (fun H => SqT K H a xs) (fun i H x H' => H' = H ∧ xs[xs.length - 1 - i]? = some x) := by
  refine ⟨fun i _ hi q => ⟨hi, xs, xs[xs.length - 1 - i], q, List.getElem?_eq_getElem _⟩, fun _ _ => Nat.le_refl _, fun i H v H' hi q y => ⟨y.1, y.2 xs q⟩⟩
theorem wk_revT {F1 : Fz} {H1 : Hp} {a : Addr} {xs : List V} {ds : List PD} (h : SqT X.K H1 a xs) (r : RpA X.K k.tv F1 H1 xs ds) : WkF k X.K (RT.ItvT X.K a xs.length) F1 H1 ds.reverse := by
  refine ⟨fun H => SqT X.K H a xs, _, by rw [List.length_reverse, ← r.length]; exact walk_revT, fun F H l => SqT.lw l h, fun i H x H' hi y F τ l gd => ?_⟩
  obtain ⟨rfl, hx⟩ := y
  obtain ⟨d, e1, e2⟩ := rp_at (r.lw l) hx
  rw [List.length_reverse] at hi
  refine ⟨.refl _ _ _, gd, d, ?_, e2⟩
  rw [List.getElem?_reverse hi, ← r.length]
  exact e1
theorem si_enum {es : List Expr} {n : Nat} {tp : Pos} {e : Expr} {p pos : Pos} {m : E} (G : GOk k g tb lv X) (hg : Gl X "enumerate") (hx : ("enumerate" : Str) ∈ tb.bl) (hn : nst e = true) (h : SE k g X e m) (hp : m.isPk = false) :
    SI k g X (.Tuple es n tp) (.Call (.Name "enumerate" p) [e] [] pos) (.enum m) := by
  obtain ⟨t, pe, x, _, _⟩ := h.ex
  refine ⟨⟨_, pi_enumB hg (G.blt _ hx) (pa_cons pe pa_nil (star_cons hn)) (star_cons hn), fun H0 ρ τ σ F H ds τ' R ok gd e q => ?_⟩, fold_call⟩
  rw [items] at e
  obtain ⟨⟨d, τ1⟩, e1, e⟩ := bind2 e
  refine x hp H0 ρ τ σ F H d _ _ ok gd e1 fun v F1 H1 l1 g1 r1 => ?_
  cases d with
  | list xs =>
    cases e
    cases r1 with
    | lst h ra => exact ⟨_, rfl, .inl ⟨_, h.sq, q _ F1 H1 l1 g1 (wk_enum h ra)⟩⟩
  | tuple xs =>
    cases e
    cases r1 with
    | tup h ra => exact ⟨_, rfl, .inr ⟨_, h.sq, q _ F1 H1 l1 g1 (wk_enumT h.sq ra)⟩⟩
  | _ => cases e
theorem si_rev {tg e : Expr} {p pos : Pos} {m : E} (G : GOk k g tb lv X) (hg : Gl X "reversed") (hx : ("reversed" : Str) ∈ tb.bl) (hn : nst e = true) (h : SE k g X e m) (hp : m.isPk = false) :
    SI k g X tg (.Call (.Name "reversed" p) [e] [] pos) (.rev m) := by
  obtain ⟨t, pe, x, _, _⟩ := h.ex
  refine ⟨⟨_, RT.pi_revA hg (G.blt _ hx) pe (star_cons hn), fun H0 ρ τ σ F H ds τ' R ok gd e q => ?_⟩, fold_call⟩
  rw [items] at e
  obtain ⟨⟨d, τ1⟩, e1, e⟩ := bind2 e
  refine x hp H0 ρ τ σ F H d _ _ ok gd e1 fun v F1 H1 l1 g1 r1 => ?_
  cases d with
  | list xs =>
    cases e
    cases r1 with
    | lst h ra => exact ⟨_, _, rfl, .inl ⟨h.sq, q _ F1 H1 l1 g1 (wk_rev h ra)⟩⟩
  | tuple xs =>
    cases e
    cases r1 with
    | tup h ra => exact ⟨_, _, rfl, .inr ⟨h.sq, q _ F1 H1 l1 g1 (wk_revT h.sq ra)⟩⟩
  | _ => cases e
theorem si_zip {es : List Expr} {n : Nat} {tp : Pos} {e f : Expr} {p pos : Pos} {a b : E} (G : GOk k g tb lv X) (hg : Gl X "zip") (hx : ("zip" : Str) ∈ tb.bl) (hn : nst e = true) (hn2 : nst f = true) (ha : SE k g X e a) (hb : SE k g X f b) (pa : a.isPk = false) (pb : b.isPk = false) :
    SI k g X (.Tuple es n tp) (.Call (.Name "zip" p) [e, f] [] pos) (.zip a b) := by
  obtain ⟨t, pe, xa, _, _⟩ := ha.ex
  obtain ⟨t2, pf, xb, _, _⟩ := hb.ex
  have h2 : starEach [f] X.env = (false, eval f X.env) :: starEach [] X.env := star_cons hn2
  have h1 : starEach [e, f] X.env = (false, eval e X.env) :: starEach [f] X.env := star_cons hn
  refine ⟨⟨_, RZ.pi_zipA hg (G.blt _ hx) (pa_cons pe (pa_cons pf pa_nil h2) h1) h1 (by rw [h2]; rfl), fun H0 ρ τ σ F H ds τ' R ok gd e q => ?_⟩, fold_call⟩
  rw [items] at e
  obtain ⟨⟨x, τ1⟩, e1, e⟩ := bind2 e
  obtain ⟨⟨y, τ2⟩, e2, e⟩ := bind2 e
  refine xa pa H0 ρ τ σ F H x _ _ ok gd e1 fun v F1 H1 l1 g1 r1 => ?_
  refine xb pb H0 ρ _ σ F1 H1 y _ _ (ok.le gd l1) g1 e2 fun w F2 H2 l2 g2 r2 => ?_
  have r3 := r1.lw (l2.lw g1)
  simp only at e
  split at e
  · cases e
    cases r3 with
    | lst h ra =>
      cases r2 with
      | lst h' ra' => exact ⟨_, _, _, _, rfl, .inl ⟨h.sq, h'.sq, q _ F2 H2 (l1.trans l2) g2 (wk_zip h h' ra ra')⟩⟩
  · cases e
    cases r3 with
    | tup h ra =>
      cases r2 with
      | tup h' ra' => exact ⟨_, _, _, _, rfl, .inr ⟨h.sq, h'.sq, q _ F2 H2 (l1.trans l2) g2 (wk_zipT h.sq h'.sq ra ra')⟩⟩
  · cases e
end
end Fh
namespace Fh
open PySem L2 PyProof.Rows

theorem wipe_get {σ : Sg} {j : Nat} : ∀ {vs : List Nat}, (L2.wipe σ vs)[j]? = if j ∈ vs then (if j < σ.length then some none else none) else σ[j]?
  | [] => by simp [L2.wipe]
  | v :: vs => by
    rw [L2.wipe]
    by_cases h : v = j
    · subst h
      rw [if_pos List.mem_cons_self]
      by_cases hl : v < σ.length
      · rw [if_pos hl, List.getElem?_set_self (by rw [wipe_length]; exact hl)]
      · rw [if_neg hl, List.getElem?_eq_none (by rw [List.length_set, wipe_length]; omega)]
    · rw [List.getElem?_set_ne h, wipe_get (vs := vs)]
      have e : (j ∈ v :: vs) ↔ j ∈ vs := by
        rw [List.mem_cons]
        exact ⟨fun z => z.elim (fun q => absurd q.symm h) id, .inr⟩
      simp only [e]
theorem wipe_congr {σ σ' : Sg} {vs : List Nat} (hl : σ'.length = σ.length) (h : ∀ j, j ∉ vs → σ'[j]? = σ[j]?) : L2.wipe σ' vs = L2.wipe σ vs := by
  refine List.ext_getElem? fun j => ?_
  rw [wipe_get, wipe_get, hl]
  by_cases hj : j ∈ vs
  · rw [if_pos hj, if_pos hj]
  · rw [if_neg hj, if_neg hj, h j hj]

section
variable {T : Type} {k : Tk T} {g : Glob T} {tb : Tb} {lv : Nat} {X : Cx}
theorem GOk.blk (G : GOk k g tb lv X) (s : Shared) (H : Hp) (scope : Scope) (C : Addr) (cl : List (Str × Addr)) (fp : List Addr) : GOk k g tb lv (X.blk s H scope (compEnvC scope cl C X.env) fp) :=
  ⟨G.calm, G.nd, G.room, G.defs, G.cons, G.blt, G.mf, G.dct, G.gxs, G.rps, G.kl⟩
/-! one reading for all contexts of a block -/
theorem uni_e {scope : Scope} {e : Expr} {m : E} (h : ∀ (s : Shared) (H : Hp) (C : Addr) (cl : List (Str × Addr)) (fp : List Addr), SE k g (X.blk s H scope (compEnvC scope cl C X.env) fp) e m) (hp : m.isPk = false) :
    ∃ te, (∀ (s : Shared) (H : Hp) (C : Addr) (cl : List (Str × Addr)) (fp : List Addr), PE (X.blk s H scope (compEnvC scope cl C X.env) fp) e te) ∧ RX k g X te m := by
  refine ⟨fun σ H Q => ∀ s H' C cl fp, (h s H' C cl fp).ex.choose σ H Q, fun s H C cl fp => ⟨fun pins s' σ H' Q I hw => (h s H C cl fp).ex.choose_spec.1.run pins s' σ H' Q I (hw s H C cl fp)⟩, fun H0 ρ τ σ F H d τ' Q o gd e q s H' C cl fp => ?_⟩
  exact (h s H' C cl fp).ex.choose_spec.2.1 hp H0 ρ τ σ F H d τ' Q o gd e q
theorem uni_t {scope : Scope} {e : Expr} {m : E} (h : ∀ (s : Shared) (H : Hp) (C : Addr) (cl : List (Str × Addr)) (fp : List Addr), ST k g (X.blk s H scope (compEnvC scope cl C X.env) fp) e m) :
    ∃ tt, (∀ (s : Shared) (H : Hp) (C : Addr) (cl : List (Str × Addr)) (fp : List Addr), PTs (X.blk s H scope (compEnvC scope cl C X.env) fp) [e] tt) ∧ RT k g X tt m := by
  refine ⟨fun σ H Q => ∀ s H' C cl fp, (h s H' C cl fp).ex.choose σ H Q, fun s H C cl fp => pts_one ⟨fun pins s' σ H' Q I hw => (h s H C cl fp).ex.choose_spec.1.run pins s' σ H' Q I (hw s H C cl fp)⟩, fun H0 ρ τ σ F H d τ' Q o gd e q s H' C cl fp => ?_⟩
  exact (h s H' C cl fp).ex.choose_spec.2 H0 ρ τ σ F H d τ' Q o gd e q
theorem uni_g {scope : Scope} {e : Expr} {tg : Tg} (h : ∀ (s : Shared) (H : Hp) (C : Addr) (cl : List (Str × Addr)) (fp : List Addr), SG k (X.blk s H scope (compEnvC scope cl C X.env) fp) e tg) :
    ∃ gg, (∀ (s : Shared) (H : Hp) (C : Addr) (cl : List (Str × Addr)) (fp : List Addr), PG (X.blk s H scope (compEnvC scope cl C X.env) fp) e gg) ∧ RG k X.K gg tg := by
  refine ⟨fun v σ H Q => ∀ s H' C cl fp, (h s H' C cl fp).ex.choose v σ H Q, fun s H C cl fp => ⟨fun pins s' σ H' v u Q I r hw => (h s H C cl fp).ex.choose_spec.1.run pins s' σ H' v u Q I r (hw s H C cl fp)⟩, fun H0 ρ σ F H d v ρ' Q o r e q s H' C cl fp => ?_⟩
  exact (h s H' C cl fp).ex.choose_spec.2 H0 ρ σ F H d v ρ' Q o r e q
/-- the reading of a comprehension -/
theorem rf_lc {wi : TI} {gg : TG} {tt : TT} {te : TE} {tg : Tg} {it : Ir} {c m : E} (ri : RIE k g X wi it) (rg : RG k X.K gg tg) (rt : RT k g X tt c) (rx : RX k g X te m) : RF k g X (tLc wi gg tt te tg.slots) (.lc tg it c m) := fun H0 ρ τ σ F H d τ' Q ok gd e q => by
  rw [ev] at e
  obtain ⟨⟨ds, τ1⟩, e1, e⟩ := bind2 e
  simp only at e
  split at e
  case isFalse => cases e
  rename_i hz
  obtain ⟨⟨out, τ2⟩, e2, e3⟩ := Option.map_eq_some_iff.mp e
  cases e3
  have hz := okLen_le hz
  refine ri H0 ρ τ σ F H ds τ1 _ ok gd e1 fun J F1 H1 l1 g1 wk => ?_
  intro D hD
  obtain ⟨Gp, Y, w, hG, hY⟩ := wk
  generalize hstep : (fun (d : PD) (τ : T) => (bindT tg d (wipeE ρ tg.slots)).bind fun ρ1 => (ev g c ρ1 τ).bind fun q => (truth q.1).bind fun b => if b then (ev g m ρ1 q.2).map fun r => (some r.1, r.2) else some (none, q.2)) = step at e2
  have hZ : ¬ k.Z D := g1.newZ hD
  refine lc_it w (fun i H2 => ∃ (F2 : Fz) (τ3 : T) (acc : List V) (accD rest : List PD), Le k.Z F1 H1 F2 H2 ∧ Gd k τ3 F2 H2 ∧ ¬ F2 D ∧ H2 D = some (.lst acc) ∧ RpA X.K k.tv F2 H2 acc accD ∧ accD.length ≤ i ∧ lcLoop step (ds.drop i) τ3 = some (rest, τ2) ∧ accD ++ rest = out)
    ⟨F1, τ1, [], [], out, le_new (.refl _ _ _) hD, gd_new g1 hD, noF g1 hD, upd_same, .nil, Nat.zero_le _, e2, rfl⟩ ?_ ?_ ?_
  · rintro i H2 hi ⟨F2, τ2, acc, accD, rest, l2, g2, _⟩
    exact hG F2 H2 l2
  · rintro i x H2 H3 hi ⟨F2, τ2, acc, accD, rest, l2, g2, nD, hD2, ra, hlen, el, eo⟩ y
    obtain ⟨l3, g3, dd, hdd, rd⟩ := hY i H2 x H3 hi y F2 τ2 l2 g2
    have hdrop : ds.drop i = dd :: ds.drop (i + 1) := by
      rw [List.drop_eq_getElem_cons hi]
      rw [List.getElem?_eq_getElem hi] at hdd
      cases hdd
      rfl
    rw [hdrop, lcLoop] at el
    obtain ⟨⟨r1, τ3⟩, e4, el⟩ := bind2 el
    obtain ⟨⟨r2, τ4⟩, e5, e6⟩ := bind2 el
    simp only [Option.some.injEq, Prod.mk.injEq] at e6
    obtain ⟨e6, e7⟩ := e6
    subst e7
    rw [← hstep] at e4
    obtain ⟨ρ1, e8, e4⟩ := bind2 e4
    obtain ⟨⟨cd, τ5⟩, e9, e4⟩ := bind2 e4
    obtain ⟨b, e10, e4⟩ := bind2 e4
    have ok1 := ok.le gd l1
    have ok2 := ok1.le g1 l2
    have ok3 := (ok2.le g2 l3).wipe tg.slots
    have hD3 : H3 D = some (.lst acc) := l3.keep _ _ hD2 hZ
    refine rg H0 (wipeE ρ tg.slots) (L2.wipe σ tg.slots) F2 H3 dd x ρ1 _ ok3 rd e8 fun σ2 o2 len2 keep2 => ⟨?_, ?_⟩
    · refine wipe_congr (len2.trans (wipe_length _ _)) fun j hj => ?_
      rw [keep2 j hj, wipe_get, if_neg hj]
    · refine rt H0 ρ1 τ2 σ2 F2 H3 b τ5 _ o2 g3 (by unfold evT; rw [e9]; show Option.map _ _ = _; rw [e10]; rfl) fun F4 H4 l4 g4 => ?_
      have hD4 : H4 D = some (.lst acc) := l4.keep _ _ hD3 hZ
      have nD4 : ¬ F4 D := fun z => (l4.new D z).elim (fun z => nD z) fun z => by rw [hD3] at z; cases z
      have l14 := (l2.trans l3).trans l4
      cases b with
      | false =>
        rw [if_neg Bool.false_ne_true] at e4 ⊢
        cases e4
        exact ⟨F4, _, acc, accD, _, l14, g4, nD4, hD4, (ra.lw (l3.lw g2)).lw (l4.lw g3), Nat.le_succ_of_le hlen, e5, by rw [← eo, ← e6]⟩
      | true =>
        rw [if_pos rfl] at e4 ⊢
        obtain ⟨⟨z, τ6⟩, e11, e12⟩ := Option.map_eq_some_iff.mp e4
        cases e12
        refine rx H0 ρ1 τ5 σ2 F4 H4 z _ _ (o2.le g3 l4) g4 e11 fun v F5 H5 l5 g5 r5 => ?_
        have hD5 : H5 D = some (.lst acc) := l5.keep _ _ hD4 hZ
        have nD5 : ¬ F5 D := fun z => (l5.new D z).elim (fun z => nD4 z) fun z => by rw [hD4] at z; cases z
        have ra5 := ((ra.lw (l3.lw g2)).lw (l4.lw g3)).lw (l5.lw g4)
        have l15 := l14.trans l5
        have hla : acc.length = accD.length := ra.length
        refine ⟨acc, hD5, by omega, F5, _, acc ++ [v], accD ++ [z], r2, ?_, ?_, nD5, upd_same, ?_, ?_, e5, ?_⟩
        · refine ⟨l15.sub, fun a o h nz => ?_, l15.new, fun a h => ?_⟩
          · rw [upd_ne (ne_of_none h hD)]
            exact l15.keep a o h nz
          · by_cases ea : a = D
            · subst ea; exact absurd hD h
            · rw [upd_ne ea]; exact l15.there a h
        · refine ⟨k.stay _ _ _ g5.ok fun a za => upd_ne (by rintro rfl; exact hZ za), fun a ha => ⟨(g5.fz a ha).1, ?_⟩⟩
          rw [upd_ne (by rintro rfl; exact nD5 ha)]
          exact (g5.fz a ha).2
        · refine (ra5.append (.cons r5 .nil)).lw ⟨fun _ h => h, fun a o h c => ?_⟩
          rw [upd_ne ?_]
          · exact h
          · rintro rfl
            rcases c with c | c
            · exact nD5 c
            · rw [hD5] at h; cases h; exact c
        · rw [List.length_append, List.length_singleton]; omega
        · rw [← eo, ← e6, List.append_assoc]; rfl
  · rintro H2 ⟨F2, τ2, acc, accD, rest, l2, g2, nD, hD2, ra, hlen, el, eo⟩
    rw [List.drop_length, lcLoop] at el
    cases el
    rw [List.append_nil] at eo
    subst eo
    exact q _ F2 H2 (l1.trans l2) g2 ⟨D, acc, rfl, none_of_le l1 hD, nD, hD2, ra⟩
/-- the parts of a comprehension -/
structure SLC (k : Tk T) (g : Glob T) (X : Cx) (elt tgE iterE : Expr) (ifs : List Expr) (scope : Scope) (own : List (Str × Nat)) (tg : Tg) (it : Ir) (c m : E) : Prop where
  it : SIE k g X tgE iterE it
  ok : BlkOk X.N X.env.scope scope own
  hv : own.map (·.2) = tg.slots
  ht : ∀ (s : Shared) (H : Hp) (C : Addr) (cl : List (Str × Addr)) (fp : List Addr), SG k (X.blk s H scope (compEnvC scope cl C X.env) fp) tgE tg
  hc : (ifs = [] ∧ c = .bl true) ∨ ∃ e, ifs = [e] ∧ ∀ (s : Shared) (H : Hp) (C : Addr) (cl : List (Str × Addr)) (fp : List Addr), ST k g (X.blk s H scope (compEnvC scope cl C X.env) fp) e c
  he : ∀ (s : Shared) (H : Hp) (C : Addr) (cl : List (Str × Addr)) (fp : List Addr), SE k g (X.blk s H scope (compEnvC scope cl C X.env) fp) elt m
  hp : m.isPk = false
theorem SLC.parts {elt tgE iterE : Expr} {ifs : List Expr} {scope : Scope} {own : List (Str × Nat)} {tg : Tg} {it : Ir} {c m : E} (h : SLC k g X elt tgE iterE ifs scope own tg it c m) :
    ∃ wi gg tt te, PI X tgE iterE wi ∧ (∀ (s : Shared) (H : Hp) (C : Addr) (cl : List (Str × Addr)) (fp : List Addr), PG (X.blk s H scope (compEnvC scope cl C X.env) fp) tgE gg) ∧ (∀ (s : Shared) (H : Hp) (C : Addr) (cl : List (Str × Addr)) (fp : List Addr), PTs (X.blk s H scope (compEnvC scope cl C X.env) fp) ifs tt) ∧
      (∀ (s : Shared) (H : Hp) (C : Addr) (cl : List (Str × Addr)) (fp : List Addr), PE (X.blk s H scope (compEnvC scope cl C X.env) fp) elt te) ∧ RF k g X (tLc wi gg tt te (own.map (·.2))) (.lc tg it c m) := by
  obtain ⟨wi, hpi, ri⟩ := h.it.ex
  obtain ⟨gg, hg, rg⟩ := uni_g h.ht
  obtain ⟨te, he, rx⟩ := uni_e h.he h.hp
  have tt : ∃ tt, (∀ (s : Shared) (H : Hp) (C : Addr) (cl : List (Str × Addr)) (fp : List Addr), PTs (X.blk s H scope (compEnvC scope cl C X.env) fp) ifs tt) ∧ RT k g X tt c := by
    rcases h.hc with ⟨rfl, rfl⟩ | ⟨e, rfl, ht⟩
    · refine ⟨tYes, fun _ _ _ _ _ => pts_nil, fun H0 ρ τ σ F H b τ' Q o gd e q => ?_⟩
      unfold evT at e
      rw [ev] at e
      cases e
      exact q F H (.refl _ _ _) gd
    · exact uni_t ht
  obtain ⟨tt, ht, rt⟩ := tt
  refine ⟨wi, gg, tt, te, hpi, hg, ht, he, ?_⟩
  rw [h.hv]
  exact rf_lc ri rg rt rx
theorem se_lc {elt tgE iterE : Expr} {ifs : List Expr} {scope : Scope} {pos : Pos} {own : List (Str × Nat)} {tg : Tg} {it : Ir} {c m : E} (G : GOk k g tb lv X) (h : SLC k g X elt tgE iterE ifs scope own tg it c m) :
    SE k g X (.ListComp elt [⟨tgE, iterE, ifs, 0⟩] scope pos) (.lc tg it c m) := by
  obtain ⟨wi, gg, tt, te, hpi, hg, ht, he, r⟩ := h.parts
  exact .ofF (pe_lc G.calm G.nd hpi h.ok hg ht he h.it.hs) r
end
end Fh
namespace Fh
open PySem PySem.Spec PyProof.Rows L2
/-! any, all of a generator over a tuple of ints, by tests that only look -/
/-- a test of the int under the name x, in the generator's own frame -/
def EltI (prog : Program) (w : World) (mg : Str → Option Value) (scope : Scope) (x : Str) (elt : Expr) (pb : Int → Bool) : Prop :=
  ∀ (cenv : Env) (A' : Around) (E' : Value → Shared → Prop) (c : Int) (t : Tok) (s₂ : Shared) (m₂ mb : Str → Option Value), cenv.scope = scope → A'.handled = none → s₂.heap.Ns cenv.locals m₂ → m₂ x = some (.int c t) →
    cenv.globals = mainGlobals → s₂.heap.Ns mainGlobals mg → s₂.heap.Ns cenv.builtins mb → (∀ x : Str, x ≠ "__name__" → mb x = bootBuiltins x) →
    wpAny (model prog w) A' (eval elt cenv) (fun y s₃ => y = .bool (pb c) ∧ Keeps s₂ s₃) E' s₂
/-- the test at place j -/
def trI (pb : Int → Bool) (l : List Int) (j : Nat) : Bool := match l[j]? with
  | some b => pb b
  | none => false
theorem trI_some {pb : Int → Bool} {l : List Int} {j : Nat} {b : Int} (h : l[j]? = some b) : trI pb l j = pb b := by
  unfold trI
  rw [h]
theorem any_trI (l : List Int) (pb : Int → Bool) : (List.range l.length).any (trI pb l) = l.any pb := by
  rw [Bool.eq_iff_iff, List.any_eq_true, List.any_eq_true]
  constructor
  · rintro ⟨j, hj, h⟩
    have hj' := List.mem_range.mp hj
    rw [trI_some (List.getElem?_eq_getElem hj')] at h
    exact ⟨l[j], List.getElem_mem hj', h⟩
  · rintro ⟨b, hb, h⟩
    obtain ⟨j, hj, e⟩ := List.getElem_of_mem hb
    refine ⟨j, List.mem_range.mpr hj, ?_⟩
    rw [trI_some (List.getElem?_eq_getElem hj), e]
    exact h
theorem all_trI (l : List Int) (pb : Int → Bool) : (List.range l.length).all (trI pb l) = l.all pb := by
  rw [Bool.eq_iff_iff, List.all_eq_true, List.all_eq_true]
  constructor
  · intro h b hb
    obtain ⟨j, hj, e⟩ := List.getElem_of_mem hb
    have q := h j (List.mem_range.mpr hj)
    rw [trI_some (List.getElem?_eq_getElem hj), e] at q
    exact q
  · intro h j hj
    have hj' := List.mem_range.mp hj
    rw [trI_some (List.getElem?_eq_getElem hj')]
    exact h _ (List.getElem_mem hj')
section
variable {X : Cx} {pins : List (Addr × Obj)} {σ : L2.St} {H : Hp} {s : Shared}
/-- the generator g over the ints, ready to be walked -/
def ReadyI (X : Cx) (pins : List (Addr × Obj)) (σ : L2.St) (H1 : Hp) (P : Addr) (l : List Int) (pb : Int → Bool) (g : Addr) (s5 : Shared) : Prop :=
  ∃ (fp wr : List Addr) (G : Array GenState → Array GenState → Prop) (F : Nat → Value → Prop) (St : Nat → Shared → Prop),
    WalksS X.prog X.w X.A.in1 g fp wr G l.length F St ∧ St 0 s5 ∧ TruthOf X.prog X.w X.A.in1 F (trI pb l) ∧
    ∀ s', Moved wr G s5 s' → ∃ H2, GxR.Tabbed P H1 H2 ∧ Inv X pins σ H2 s'
theorem gen_tup {c P : Addr} {elt iter : Expr} {x : Str} {px gpos : Pos} {scope : Scope} {pb : Int → Bool} {te : TE} {k : Nat} {Q' : Value → Shared → Prop} {R : Addr → List Int → Hp → Prop}
    (hr : Room k X.A) (TB : GxR.TabB X.base X.mg c P) (hcode : X.env.code = .ref c) (S : GxR.GenS X.env scope x) (hi : PE X iter te) (hel : EltI X.prog X.w X.mg scope x elt pb)
    (hs : ∀ v, genFold iter X.env v = pure v) (I : Inv X pins σ H s) (h : te σ H fun v H1 => ∃ (a : Addr) (l : List Int), v = .ref a ∧ SqT X.K H1 a (l.map V.int) ∧ GxR.TabG H1 P ∧ R a l H1)
    (hQ : ∀ a l H1 g s5, R a l H1 → ReadyI X pins σ H1 P l pb g s5 → Q' (.ref g) s5) :
    wpAny (model X.prog X.w) X.A (eval (.GeneratorExp elt [⟨.Name x px, iter, [], 0⟩] scope gpos) X.env) Q' X.xe s := by
  refine wpAny_GeneratorExp_walksQ hr.hd S.co (closure_ok S.free) S.cell S.dot S.loc S.kind (by have := hr.dp; omega) ?_ hs
  refine thn (hi.run pins s σ H _ I h) fun xv s1 ⟨v, H1, I1, r1, q1⟩ => ?_
  obtain ⟨a, l, rfl, hT, ⟨ps, hP, ht⟩, q1⟩ := q1
  cases r1
  obtain ⟨its, rv, p, hz⟩ := I1.tuple hT
  have hlen : its.length = l.length := by rw [← rv.length, List.length_map]
  have itI : ∀ (i : Nat) (u : Value), its.toArray[i]? = some u → ∃ z t, l[i]? = some z ∧ u = Value.int z t := fun i u hu => by
    have hu : its[i]? = some u := by simpa using hu
    have hi : i < l.length := by rw [← hlen]; exact (List.getElem?_eq_some_iff.mp hu).1
    obtain ⟨u', hu', r⟩ := rv.get (i := i) (x := .int l[i]) (by rw [List.getElem?_map, List.getElem?_eq_getElem hi]; rfl)
    rw [hu] at hu'
    cases hu'
    obtain ⟨t, rfl⟩ := r
    exact ⟨l[i], t, List.getElem?_eq_getElem hi, rfl⟩
  refine wpAny_pyIter_tuple (show s1.heap.IsTuple a its.toArray from p) ?_
  generalize ho : ({ cls := .type "tuple_iterator", data := .fields #[.ref a, .int 0 0] } : Obj) = o
  have hPs : s1.heap.get? P = some { cls := .none, data := .fields ps } := I1.hok P _ hP
  have hPlt : P < s1.heap.objs.size := Heap.lt_size hPs
  have hP2 : (s1.heap.push o).get? P = some { cls := .none, data := .fields ps } := Heap.get?_push_of_some _ hPs
  have cd : PySem.W.CodeHd (s1.heap.push o) c P := TB.code.keeps fun b u e => Heap.get?_push_of_some _ (I1.bk b u e)
  have lim2 : (s1.heap.push o).NoLimit := I1.nolimit.push o
  have pT : s1.heap.IsTuple a its.toArray := p
  have haP : a ≠ P := fun z => by
    obtain ⟨ob, hob, hcls, n, hd⟩ := pT
    rw [z, hPs] at hob
    cases hob
    cases hcls
  have cont : ∀ (code : Value) (h3 : Heap) (tk : Nat) (ps' : Array Value), Heap.ExtBut P (s1.heap.push o) h3 → (s1.heap.push o).objs.size ≤ h3.objs.size → h3.get? P = some { cls := .none, data := .fields ps' } → (∃ more, ps' = ps ++ more) → TriplesOk ps'.toList →
      wpAny (model X.prog X.w) X.A (builtinsFor X.env.globals X.env.builtins) (fun bi s₄ =>
        ∃ Ia fp wr n₀ Pf St₀ pz F, Value.ref s1.heap.objs.size = .ref Ia ∧ (∀ A' : Around, A'.handled = none → Walks X.prog X.w A' Ia fp wr n₀ Pf St₀) ∧ St₀ 0 s₄.heap ∧ (∀ b ∈ fp, b < s₄.heap.objs.size) ∧ s₄.heap.NoLimit ∧ cStatics ∉ wr ∧
          (∀ href : Heap, (∀ b o, s₄.heap.get? b = some o → href.get? b = some o) →
            QuietGen X.prog X.w (genEnv scope (cloFrom X.env.cells scope.names []) s₄.heap.objs.size code bi X.env) x [] elt (List.range s₄.heap.objs.size) wr Pf pz F href) ∧
          (∀ a h₅ tk gs, gs.bare = true → s₄.heap.objs.size < a → h₅.objs.size = a + 1 → (∀ b o, s₄.heap.get? b = some o → h₅.get? b = some o) →
            WalksS X.prog X.w X.A.in4 a (a :: s₄.heap.objs.size :: List.range s₄.heap.objs.size) (s₄.heap.objs.size :: wr) (GenOnlyQ s₄.gens.size) (passing pz n₀ 0).length
              (fun j y => ∃ i, (passing pz n₀ 0)[j]? = some i ∧ F i y) (GenAt X.prog X.w X.A.in4 a s₄.gens.size s₄.heap.objs.size (List.range s₄.heap.objs.size) wr pz n₀ F) →
            GenAt X.prog X.w X.A.in4 a s₄.gens.size s₄.heap.objs.size (List.range s₄.heap.objs.size) wr pz n₀ F 0 { s₄ with gens := s₄.gens.push gs, toks := tk, heap := h₅ } →
            Q' (.ref a) { s₄ with gens := s₄.gens.push gs, toks := tk, heap := h₅ })) X.xe { s1 with heap := h3, toks := tk } := by
    intro code h3 tk ps' hx hsz hP3 hmore ht3
    obtain ⟨bm, ob, e1, e2, e3, e4, e5, e6, e7, e8⟩ := TB.bm
    have hcP : cStatics ≠ P := fun e => by
      obtain ⟨_, hns, _⟩ := I1.nolimit
      obtain ⟨o', es, ep, ho, hd, _⟩ := hns
      rw [e, hPs] at ho
      cases ho
      cases hd
    have hcl : cStatics < s1.heap.objs.size := let ⟨_, hns, _⟩ := I1.nolimit; hns.lt
    have sz2 : (s1.heap.push o).objs.size = s1.heap.objs.size + 1 := Heap.size_push ..
    have keep3 : ∀ b u, b ≠ P → s1.heap.get? b = some u → h3.get? b = some u := fun b u hb e => hx b u hb (Heap.get?_push_of_some _ e)
    have halt : a < s1.heap.objs.size := by
      obtain ⟨ob, hob, _⟩ := pT
      exact Heap.lt_size hob
    refine wpAny_builtinsFor (m := X.mg) (by rw [I1.ok.glob]; exact ((I1.mod.glob.keeps I1.bk).push o).extBut hx TB.gP) e1 e2 (keep3 _ _ e4 (I1.bk _ _ e5)) e6 e7 e8 ?_
    refine ⟨s1.heap.objs.size, [s1.heap.objs.size, a], [s1.heap.objs.size], its.toArray.size, (fun i v => its.toArray[i]? = some v), (fun i h => h.IsTupleIter s1.heap.objs.size a i ∧ h.IsTuple a its.toArray), (fun _ => true), (fun i y => ∃ z, l[i]? = some z ∧ y = .bool (pb z)), rfl, (fun A' hA => Walks.tuple hA _ _ (Nat.ne_of_lt halt) _), ?_, ?_, lim2.extBut hx hcP, ?_, ?_, ?_⟩
    · refine (Walks.tuple (prog := X.prog) (w := X.w) (A := X.A) hr.hd s1.heap.objs.size a (Nat.ne_of_lt halt) its.toArray).frame 0 (s1.heap.push o) _ ⟨⟨o, Heap.get?_push_size _ (by rw [← ho]; rfl), by rw [← ho], by rw [← ho]; rfl⟩, pT.at fun ob e => Heap.get?_push_of_some _ e⟩ fun b hb u e => hx b u (fun z => ?_) e
      rcases List.mem_cons.mp hb with z2 | z2
      · exact Nat.ne_of_lt hPlt (z.symm.trans z2)
      · rcases List.mem_cons.mp z2 with z2 | z2
        · exact haP (z2.symm.trans z)
        · cases z2
    · intro b hb
      rcases List.mem_cons.mp hb with z | z
      · rw [z]
        show s1.heap.objs.size < h3.objs.size
        omega
      · rcases List.mem_cons.mp z with z | z
        · rw [z]
          show a < h3.objs.size
          exact Nat.lt_of_lt_of_le (show a < s1.heap.objs.size + 1 from Nat.lt_succ_of_lt halt) (by rw [← sz2]; exact hsz)
        · cases z
    · intro z
      rcases List.mem_cons.mp z with z | z
      · exact Nat.ne_of_lt hcl z
      · cases z
    · intro href hhref
      refine ⟨fun A' E' i v s₂ m₂ hA hPv hn hm hk => ?_, fun A' E' i v s₂ m₂ hA hPv hp hn hm hk => ?_⟩
      · simp only [List.forIn_nil]
        exact wpAny_pure ⟨rfl, GxR.keeps_refl _⟩
      · obtain ⟨z, t, hz, rfl⟩ := itI i v hPv
        have hkk : ∀ b u, b ≠ P → s1.heap.get? b = some u → s₂.heap.get? b = some u := fun b u hb e => by
          have hlt := Heap.lt_size e
          have h3e := keep3 b u hb e
          refine hk b (List.mem_range.mpr (Heap.lt_size h3e)) (fun q => ?_) u (hhref b u h3e)
          rcases List.mem_cons.mp q with q | q
          · rw [q] at hlt; exact Nat.lt_irrefl _ hlt
          · cases q
        have ns2 : ∀ {b : Addr} {m : Str → Option Value}, b ≠ P → s1.heap.Ns b m → s₂.heap.Ns b m := fun {b m} hb ⟨ob, es, ep, e, d, r⟩ => ⟨ob, es, ep, hkk b ob hb e, d, r⟩
        obtain ⟨mb, hmb, hbb⟩ := I1.mod.blt
        have hmb1 := hmb.keeps I1.bk
        have hbP : builtinsNs ≠ P := fun q => by
          obtain ⟨ob, es, ep, e, d, _⟩ := hmb1
          rw [q, hPs] at e
          cases e
          cases d
        refine wpAny_mono (hel _ A' E' z t s₂ m₂ mb rfl hA hn hm I1.ok.glob (ns2 TB.gP (I1.mod.glob.keeps I1.bk)) (ns2 hbP hmb1) hbb) (fun y s3 r => ⟨⟨z, hz, r.1⟩, r.2⟩) fun _ _ e => e
    · intro g h5 tk5 gs hgb hag hsz5 hk5 W5 hat
      simp only [GxR.passing_true, List.length_range] at W5
      refine hQ a l H1 g _ q1 ⟨_, _, _, _, _, (by simpa [hlen] using W5.in4_1), hat, ?_, fun s' hm => ?_⟩
      · intro j y sj Qj Ej hy hQj
        obtain ⟨i, hij, z, hz, rfl⟩ := hy
        obtain ⟨hj, ej⟩ := List.getElem?_eq_some_iff.mp hij
        rw [List.getElem_range] at ej
        subst ej
        have hQ2 : Qj (trI pb l j) sj := hQj
        rw [trI_some hz] at hQ2
        exact wpAny_truthy_bool hQ2
      · obtain ⟨more, em⟩ := hmore
        have nwr : ∀ b u, s1.heap.get? b = some u → b ∉ h3.objs.size :: [s1.heap.objs.size] := fun b u e hb => by
          have hl := Heap.lt_size e
          rcases List.mem_cons.mp hb with z | z
          · rw [z] at hl
            have h9 : (h3.objs.size : Nat) < s1.heap.objs.size := hl
            omega
          · rcases List.mem_cons.mp z with z | z
            · rw [z] at hl
              exact Nat.lt_irrefl _ hl
            · cases z
        have J := GxR.inv_tab (more := more) (h' := s'.heap) (g' := s'.gens) (d' := s'.drawn) (t' := s'.toks) I1 hP (fun b u hb e => hm.heap b u (nwr b u e) (hk5 b u (keep3 b u hb e)))
          (by rw [← em]; exact hm.heap P _ (nwr P _ hPs) (hk5 P _ hP3)) (AllBare.movedS (I1.bare.push hgb) hm)
        rw [GxR.sh_eta s1 s' hm.os] at J
        refine ⟨upd H1 P (.tbl (ps ++ more)), ⟨⟨ps ++ more, upd_same, by rw [← em]; exact ht3⟩, fun b hb => upd_ne hb⟩, J⟩
  refine ⟨lim2, ?_⟩
  cases hf : codeAmong gpos ps.toList with
  | none =>
    refine wpAny_genexprCodeX hcode (cd.code hP2 ht) (cd.tab hP2) hf fun c' h' tk hx hge hlt hco' _ htab' _ => ?_
    obtain ⟨o1, vs, f1, tf, fl, tg, inF, tx, tt, op, _, _, _, _, _, _, _, _, _, htr, _⟩ := hco'
    exact cont _ h' tk _ hx (Nat.le_trans hge (Nat.le_of_lt hlt)) htab'.2 ⟨_, rfl⟩ htr
  | some cv =>
    refine wpAny_genexprCode_hit hcode (cd.code hP2 ht) hf ?_
    exact cont cv (s1.heap.push o) s1.toks ps (Heap.ExtBut.refl _ _) (Nat.le_refl _) hP2 ⟨#[], by simp⟩ ht
end
/-! the tests -/
/-- x op k, k written -/
theorem elt_int {prog : Program} {w : World} {mg : Str → Option Value} {scope : Scope} {x : Str} {k : Int} {j : Nat} {op : CmpOp} {f : Int → Bool} {p1 p2 p3 : Pos} (hk : scope.kind = .function) (hl : scope.names.lookup x = some .local) (hd : (x == ("__debug__" : Str)) = false)
    (hop : ∀ (A : Around) (E : Value → Shared → Prop) (s : Shared) (a : Int) (t u : Tok) (Q : Value → Shared → Prop), Q (.bool (f a)) s → wpAny (model prog w) A (compareOp op (.int a t) (.int k u)) Q E s) :
    EltI prog w mg scope x (.Compare (.Name x p1) [op] [.Constant (.int k) j p2] p3) f := by
  intro cenv A' E' c t s₂ m₂ mb hs hA hn hm _ _ _ _
  refine wpAny_Compare1 ?_
  refine wpAny_Name (wpAny_loadName_local (by rw [hs]; exact hk) (show cenv.scope.names.lookup x = some .local by rw [hs]; exact hl) hn hm ?_) hd
  refine wpAny_Constant_int ?_
  exact hop _ _ _ _ _ _ _ ⟨rfl, GxR.keeps_tok _ _⟩
/-- abs(x) op C, C a constant of the top -/
theorem elt_abs {prog : Program} {w : World} {mg : Str → Option Value} {scope : Scope} {x y : Str} {k : Int} {tk : Tok} {op : CmpOp} {f : Int → Bool} {p1 p2 p3 p4 p5 : Pos} (hk : scope.kind = .function) (hl : scope.names.lookup x = some .local) (hd : (x == ("__debug__" : Str)) = false)
    (ha : scope.names.lookup ("abs" : Str) = some .globalImplicit) (hma : mg "abs" = none) (hy : scope.names.lookup y = some .globalImplicit) (hdy : (y == ("__debug__" : Str)) = false) (hmy : mg y = some (.int k tk))
    (hop : ∀ (A : Around) (E : Value → Shared → Prop) (s : Shared) (a : Int) (t u : Tok) (Q : Value → Shared → Prop), Q (.bool (f a)) s → wpAny (model prog w) A (compareOp op (.int a t) (.int k u)) Q E s) :
    EltI prog w mg scope x (.Compare (.Call (.Name "abs" p1) [.Name x p2] [] p3) [op] [.Name y p4] p5) (fun i => f (if i < 0 then -i else i)) := by
  intro cenv A' E' c t s₂ m₂ mb hs hA hn hm hg hG hb hbb
  have hkf : cenv.scope.kind = .function := by rw [hs]; exact hk
  have kd : ∀ z q, scope.names.lookup z = some q → cenv.kindOf z = some q := fun z q h => by show cenv.scope.names.lookup z = some q; rw [hs]; exact h
  refine wpAny_Compare1 ?_
  refine wpAny_Call_Name_kw (Calls.Name_function_global hkf (kd _ _ ha) (Calls.loadGlobal_builtin (by rw [hg]; exact hG) hma hb ((hbb _ (by decide)).trans boot_abs) ?_) (by decide))
  refine PyProof.Rows.callWith_builtin1 ?_ (by rfl) (by rfl)
  refine Calls.spliced_cons ?_
  refine wpAny_Name (wpAny_loadName_local hkf (kd _ _ hl) hn hm ?_) hd
  refine Calls.spliced_nil ?_
  refine call_abs_int fun u tk2 => ?_
  refine Calls.Name_function_global hkf (kd _ _ hy) (Calls.loadGlobal_global (by rw [hg]; exact hG) hmy ?_) hdy
  exact hop _ _ _ _ _ _ _ ⟨rfl, GxR.keeps_tok _ _⟩
/-! any(..), all(..) -/
def tGen (K : PySem.W.Frag) (P : Addr) (al : Bool) (pb : Int → Bool) (te : TE) : TE := fun σ H Q => te σ H fun v H1 => ∃ (a : Addr) (l : List Int), v = .ref a ∧ SqT K H1 a (l.map V.int) ∧ GxR.TabG H1 P ∧ ∀ H2, GxR.Tabbed P H1 H2 → Q (.bl (if al then l.all pb else l.any pb)) H2
theorem boot_all' : bootBuiltins "all" = some (.builtin "all") := by decide +kernel
theorem pe_any {X : Cx} {c P : Addr} {elt iter : Expr} {x : Str} {px p pos gpos : Pos} {scope : Scope} {pb : Int → Bool} {te : TE} {k : Nat}
    (hr : Room k X.A) (hg : Gl X "any") (hm : X.mg "any" = none) (TB : GxR.TabB X.base X.mg c P) (hcode : X.env.code = .ref c) (S : GxR.GenS X.env scope x) (hi : PE X iter te) (hel : EltI X.prog X.w X.mg scope x elt pb)
    (hs : ∀ v, genFold iter X.env v = pure v) :
    PE X (.Call (.Name "any" p) [.GeneratorExp elt [⟨.Name x px, iter, [], 0⟩] scope gpos] [] pos) (tGen X.K P false pb te) := by
  have he : starEach [.GeneratorExp elt [⟨.Name x px, iter, [], 0⟩] scope gpos] X.env = (false, eval (.GeneratorExp elt [⟨.Name x px, iter, [], 0⟩] scope gpos) X.env) :: starEach [] X.env := by rfl
  refine ⟨fun pins s σ H Q I h => ?_⟩
  refine wpAny_Call_Name_kw (ld_blt I hg hm boot_any ?_)
  refine PyProof.Rows.callWith_builtin1 ?_ he (by rfl)
  rw [he]
  show wpAny _ _ (spliced ((false, eval (.GeneratorExp elt [⟨.Name x px, iter, [], 0⟩] scope gpos) X.env) :: backTo pos (starEach [] X.env))) _ _ s
  refine Calls.spliced_cons (gen_tup (R := fun a l H1 => ∀ H2, GxR.Tabbed P H1 H2 → Q (.bl (l.any pb)) H2) hr TB hcode S hi hel hs I h fun a l H1 g s5 hR hG => ?_)
  obtain ⟨fp, wr, G, F, St, W, hst, htr, hI⟩ := hG
  refine Calls.spliced_nil ?_
  refine call_any_walkS (W.self 0 _ _ _ hst ⟨g, fp, wr, G, _, F, St, _, rfl, W, hst, htr, fun s' hmv => ?_⟩)
  obtain ⟨H2, hT, J⟩ := hI s' hmv
  refine ⟨.bl _, H2, J, rfl, ?_⟩
  rw [any_trI l pb]
  exact hR H2 hT
theorem pe_all {X : Cx} {c P : Addr} {elt iter : Expr} {x : Str} {px p pos gpos : Pos} {scope : Scope} {pb : Int → Bool} {te : TE} {k : Nat}
    (hr : Room k X.A) (hg : Gl X "all") (hm : X.mg "all" = none) (TB : GxR.TabB X.base X.mg c P) (hcode : X.env.code = .ref c) (S : GxR.GenS X.env scope x) (hi : PE X iter te) (hel : EltI X.prog X.w X.mg scope x elt pb)
    (hs : ∀ v, genFold iter X.env v = pure v) :
    PE X (.Call (.Name "all" p) [.GeneratorExp elt [⟨.Name x px, iter, [], 0⟩] scope gpos] [] pos) (tGen X.K P true pb te) := by
  have he : starEach [.GeneratorExp elt [⟨.Name x px, iter, [], 0⟩] scope gpos] X.env = (false, eval (.GeneratorExp elt [⟨.Name x px, iter, [], 0⟩] scope gpos) X.env) :: starEach [] X.env := by rfl
  refine ⟨fun pins s σ H Q I h => ?_⟩
  refine wpAny_Call_Name_kw (ld_blt I hg hm boot_all' ?_)
  refine PyProof.Rows.callWith_builtin1 ?_ he (by rfl)
  rw [he]
  show wpAny _ _ (spliced ((false, eval (.GeneratorExp elt [⟨.Name x px, iter, [], 0⟩] scope gpos) X.env) :: backTo pos (starEach [] X.env))) _ _ s
  refine Calls.spliced_cons (gen_tup (R := fun a l H1 => ∀ H2, GxR.Tabbed P H1 H2 → Q (.bl (l.all pb)) H2) hr TB hcode S hi hel hs I h fun a l H1 g s5 hR hG => ?_)
  obtain ⟨fp, wr, G, F, St, W, hst, htr, hI⟩ := hG
  refine Calls.spliced_nil ?_
  refine call_all_walkS (W.self 0 _ _ _ hst ⟨g, fp, wr, G, _, F, St, _, rfl, W, hst, htr, fun s' hmv => ?_⟩)
  obtain ⟨H2, hT, J⟩ := hI s' hmv
  refine ⟨.bl _, H2, J, rfl, ?_⟩
  rw [all_trI l pb]
  exact hR H2 hT
end Fh
namespace Fh
open PySem PySem.Spec PyProof.Rows L2
section
variable {T : Type} {k : Tk T} {g : Glob T} {tb : Tb} {lv : Nat} {X : Cx}
/-- the state with a table that has grown -/
theorem tab_le {τ : T} {F : Fz} {H H' : Hp} {P : Addr} (gd : Gd k τ F H) (hP : k.tab P) (t : GxR.Tabbed P H H') : Le k.Z F H F H' ∧ Gd k τ F H' := by
  obtain ⟨⟨ps, e, tr⟩, t2⟩ := t
  have hl : Le k.Z F H F H' := ⟨fun _ h => h, fun a o h nz => by rw [t2 a (fun z => nz (by rw [z]; exact k.tabZ P hP))]; exact h, fun _ h => .inl h, fun a h => by
    by_cases z : a = P
    · subst z; rw [e]; exact fun z => nomatch z
    · rw [t2 a z]; exact h⟩
  exact ⟨hl, ⟨k.tabSt τ H H' P gd.ok hP ⟨⟨ps, e, tr⟩, t2⟩, fun a h => ⟨(gd.fz a h).1, hl.there a (gd.fz a h).2⟩⟩⟩
theorem intsOf_eq : ∀ {xs : List PD} {l : List Int}, intsOf xs = some l → xs = l.map .int
  | [], l, h => by cases h; rfl
  | x :: r, l, h => by
    cases x with
    | int i =>
      rw [intsOf] at h
      obtain ⟨l', h1, h2⟩ := Option.map_eq_some_iff.mp h
      subst h2
      rw [List.map_cons, intsOf_eq h1]
    | _ => cases h
theorem se_gx {al : Bool} {elt iter : Expr} {x : Str} {px p pos gpos : Pos} {scope : Scope} {a : E} {t : Qt} {f : Int → Bool} (G : GOk k g tb lv X) (ht : tb.gx = true) (hg : Gl X (if al then ("all" : Str) else ("any" : Str))) (hb : (if al then ("all" : Str) else ("any" : Str)) ∈ tb.bl)
    (S : GxR.GenS X.env scope x) (h : SE k g X iter a) (hp : a.isPk = false) (hq : qfn g.con t = some f) (hel : EltI X.prog X.w X.mg scope x elt f) (hs : ∀ v, genFold iter X.env v = pure v) :
    SE k g X (.Call (.Name (if al then ("all" : Str) else ("any" : Str)) p) [.GeneratorExp elt [⟨.Name x px, iter, [], 0⟩] scope gpos] [] pos) (.gx al a t) := by
  obtain ⟨c, P, hP, hc, TB⟩ := G.gxs ht
  obtain ⟨te, pe, rx, _, _⟩ := h.ex
  have hpe : PE X (.Call (.Name (if al then ("all" : Str) else ("any" : Str)) p) [.GeneratorExp elt [⟨.Name x px, iter, [], 0⟩] scope gpos] [] pos) (tGen X.K P al f te) := by
    cases al with
    | true => exact pe_all G.room hg (G.blt _ hb) TB hc S pe hel hs
    | false => exact pe_any G.room hg (G.blt _ hb) TB hc S pe hel hs
  refine .ofX hpe (fun H0 ρ τ σ F H d τ' Q ok gd e q => ?_) rfl
  rw [ev] at e
  obtain ⟨⟨d1, τ1⟩, e1, e⟩ := bind2 e
  obtain ⟨b, e2, e3⟩ := Option.map_eq_some_iff.mp e
  cases e3
  rw [hq] at e2
  refine rx hp H0 ρ τ σ F H d1 _ _ ok gd e1 fun v F1 H1 l1 g1 r1 => ?_
  cases d1 with
  | tuple xs =>
    obtain ⟨l, e4, e5⟩ := Option.map_eq_some_iff.mp e2
    have hx := intsOf_eq e4
    subst hx
    cases r1 with
    | tup h2 ra =>
      cases ints_of ra
      refine ⟨_, l, rfl, h2.sq, k.tabOk _ _ _ g1.ok hP, fun H2 t2 => ?_⟩
      obtain ⟨l2, g2⟩ := tab_le g1 hP t2
      subst e5
      exact q _ F1 H2 (l1.trans l2) g2 (.bl _)
  | _ => cases e2
theorem RpA.rev {K : PySem.W.Frag} {tv : TV} {F : Fz} {H : Hp} : ∀ {vs : List V} {ds : List PD}, RpA K tv F H vs ds → RpA K tv F H vs.reverse ds.reverse
  | _, _, .nil => .nil
  | _, _, .cons h t => by
    rw [List.reverse_cons, List.reverse_cons]
    exact (RpA.rev t).append (.cons h .nil)
/-! ### a[::-1] -/
def tRevA (K : PySem.W.Frag) (te : TE) : TE := fun σ H Q => te σ H fun x H1 => (∃ a xs, x = .ref a ∧ SqL K H1 a xs ∧ ∀ p, H1 p = none → Q (.ref p) (upd H1 p (.lst xs.reverse))) ∨ (∃ z, x = .str z ∧ z.length ≤ sizeLine ∧ Q (.str (revS z)) H1)
theorem pickS_rev (z : Str) : (⟨((Builtin.Str.strSliceIndices none none (-1) z.length).filterMap (z.cps[·]?)).toArray⟩ : Str) = revS z := by
  unfold revS
  rw [picked_rev, PySem.W.krv_range, List.filterMap_reverse]
  show (⟨(List.filterMap (z.cps[·]?) (List.range z.cps.size)).reverse.toArray⟩ : Str) = _
  rw [PySem.W.krv_all]
theorem revS_len (z : Str) : (revS z).length = z.length := by
  show z.cps.toList.reverse.toArray.size = z.cps.size
  simp
theorem pe_revA {e : Expr} {te : TE} {k : Nat} {p1 p2 p3 pos : Pos} (he : PE X e te) : PE X (.Subscript e (.Slice none none (some (.UnaryOp .USub (.Constant (.int 1) k p1) p2)) p3) pos) (tRevA X.K te) := by
  refine ⟨fun pins s σ H Q I h => ?_⟩
  refine Subscript_ (thn (he.run pins s σ H _ I h) fun v s1 ⟨x, H1, I1, r1, q1⟩ => ?_)
  have hst : PO X (some (.UnaryOp .USub (.Constant (.int 1) k p1) p2)) (tPart (tUn (rU fun i => .int (-i)) (tC (.int 1)))) := po_some (pe_un un_neg pe_int)
  rcases q1 with q1 | q1
  · obtain ⟨a, xs, ex, hx, q⟩ := q1
    subst ex
    cases r1
    refine wpAny_Slice (thn (po_none.run pins s1 σ H1 (fun o H2 => o = none ∧ H2 = H1) I1 ⟨rfl, rfl⟩) fun vl s2 ⟨l, H2, I2, pl, el, e2⟩ => ?_)
    subst el e2
    refine thn (po_none.run pins s2 σ H2 (fun o H3 => o = none ∧ H3 = H2) I2 ⟨rfl, rfl⟩) fun vu s3 ⟨u, H3, I3, pu, eu, e3⟩ => ?_
    subst eu e3
    refine thn (hst.run pins s3 σ H3 (fun o H4 => o = some (-1) ∧ H4 = H3) I3 ⟨1, rfl, -1, rfl, rfl, rfl⟩) fun vs s4 ⟨o, H4, I4, ps, eo, e4⟩ => ?_
    subst eo e4
    have I5 : Inv X pins σ H4 { s4 with heap := s4.heap.push { cls := .type "slice", data := .fields #[vl, vu, vs] } } := I4.kept (t' := s4.toks) fun b ob q => Heap.get?_push_of_some _ q
    obtain ⟨its, r, ht, hz⟩ := I5.list hx
    have hlen := r.length
    show wpAny (model X.prog X.w) X.A (subscriptTail e (.Slice none none (some (.UnaryOp .USub (.Constant (.int 1) k p1) p2)) p3) (.ref a) (.ref s4.heap.objs.size)) (EP X pins σ Q) X.xe { s4 with heap := s4.heap.push { cls := .type "slice", data := .fields #[vl, vu, vs] } }
    refine tail_any (ops := [.ref a, .ref s4.heap.objs.size]) ht.isList.typeIs (PySem.slot_list_getitem.lookup) ?_ (by with_unfolding_all rfl)
    refine wpAny_getItem_list_slice ht.isList (Heap.IsSliceOf.new _ vl vu vs) pl pu ps (by decide) ?_ (by rw [List.size_toArray]; omega)
    rw [PySem.W.krv_pick]
    refine ⟨.ref _, _, I5.laid (t' := s4.toks) (o := .lst xs.reverse) (fun b ob q => Heap.get?_push_of_some _ q) (Nat.le_refl _) ?_, rfl, q _ (I5.hok.fresh (Nat.le_refl _))⟩
    exact ⟨by rw [List.length_reverse]; exact hz, _, 0, r.reverse, Heap.get?_push_size _ rfl⟩
  · obtain ⟨z, ex, hz, q⟩ := q1
    subst ex
    obtain ⟨t, rfl⟩ := r1
    refine wpAny_Slice (thn (po_none.run pins s1 σ H1 (fun o H2 => o = none ∧ H2 = H1) I1 ⟨rfl, rfl⟩) fun vl s2 ⟨l, H2, I2, pl, el, e2⟩ => ?_)
    subst el e2
    refine thn (po_none.run pins s2 σ H2 (fun o H3 => o = none ∧ H3 = H2) I2 ⟨rfl, rfl⟩) fun vu s3 ⟨u, H3, I3, pu, eu, e3⟩ => ?_
    subst eu e3
    refine thn (hst.run pins s3 σ H3 (fun o H4 => o = some (-1) ∧ H4 = H3) I3 ⟨1, rfl, -1, rfl, rfl, rfl⟩) fun vs s4 ⟨o, H4, I4, ps, eo, e4⟩ => ?_
    subst eo e4
    obtain ⟨l, rfl, hl⟩ := IsPart.raw pl
    obtain ⟨u, rfl, hu⟩ := IsPart.raw pu
    obtain ⟨y, rfl, hy⟩ := IsPart.raw ps
    have I5 : Inv X pins σ H4 { s4 with heap := s4.heap.push { cls := .type "slice", data := .fields #[partValue l, partValue u, partValue y] } } := I4.kept (t' := s4.toks) fun b ob q => Heap.get?_push_of_some _ q
    show wpAny (model X.prog X.w) X.A (subscriptTail e (.Slice none none (some (.UnaryOp .USub (.Constant (.int 1) k p1) p2)) p3) (.str z t) (.ref s4.heap.objs.size)) (EP X pins σ Q) X.xe { s4 with heap := s4.heap.push { cls := .type "slice", data := .fields #[partValue l, partValue u, partValue y] } }
    have hs1 : (y.map (·.1)).getD 1 = -1 := by rw [hy]; rfl
    refine tail_any (ops := [.str z t, .ref s4.heap.objs.size]) (typeIs_str _ z t) (PySem.F.slot_str_getitem.lookup) ?_ (by with_unfolding_all rfl)
    refine wpAny_getItem_str_slice (l := l) (u := u) (st := y) ⟨_, Heap.get?_push_size _ rfl, rfl, rfl⟩ (by rw [hs1]; rfl) ?_
    have hm : sliceMade z t l u y = Made.str (revS z) := by
      unfold sliceMade slicePicked
      rw [hs1, hl, hu, pickS_rev]
      exact if_neg (by simp)
    rw [hm]
    exact ⟨by rw [revS_len]; exact hz, .str _, H4, I5.tok _, ⟨_, rfl⟩, q⟩
theorem se_rv {e : Expr} {m : E} {j : Nat} {p1 p2 p3 pos : Pos} (h : SE k g X e m) : SE k g X (.Subscript e (.Slice none none (some (.UnaryOp .USub (.Constant (.int 1) j p1) p2)) p3) pos) (.rv m) := by
  obtain ⟨t, pe, _, b, _⟩ := h.ex
  refine .ofF (pe_revA pe) fun H0 ρ τ σ F H d τ' Q ok gd e q => ?_
  rw [ev] at e
  obtain ⟨⟨x, τ1⟩, e1, e⟩ := bind2 e
  cases x with
  | list xs =>
    cases e
    refine b H0 ρ τ σ F H _ _ _ ok gd e1 fun v F1 H1 l1 g1 r1 => .inl ?_
    obtain ⟨l, vs, rfl, hl, ra⟩ := r1.list
    refine ⟨l, vs, rfl, hl, fun p hp => ?_⟩
    exact q _ F1 _ (le_new l1 hp) (gd_new g1 hp) ⟨p, vs.reverse, rfl, none_of_le l1 hp, noF g1 hp, upd_same, ra.rev.lw ((le_new (.refl _ _ _) hp).lw g1)⟩
  | str z =>
    dsimp only at e
    split at e
    · rename_i hz
      cases e
      refine b H0 ρ τ σ F H _ _ _ ok gd e1 fun v F1 H1 l1 g1 r1 => .inr ?_
      cases r1.str
      exact ⟨_, rfl, okLen_le hz, q _ F1 H1 l1 g1 (.str _)⟩
    · cases e
  | _ => cases e
end
end Fh
namespace Fh
open PySem L2 PyProof.Rows

/-! ### stores that the compiler swaps -/
def notComp : Expr → Bool
  | .ListComp _ _ _ _ => false
  | .SetComp _ _ _ _ => false
  | .DictComp _ _ _ _ _ => false
  | _ => true
theorem swaps_no {e : Expr} (h : notComp e = true) (t : Option Expr) (l : Nat) (env : Env) : swapsWith e t l env = pure false := by
  cases e <;> first | rfl | cases h
theorem sole_no {e t : Expr} (h : notComp e = true) (l : Nat) (env : Env) : swapsWithSole [t] e l env = pure false := swaps_no h _ l env
/-- name = [..]: does the comprehension store by itself -/
def lcStores (sc scope : Scope) (t : Str) (p pos : Pos) : Bool :=
  (sc.kind == .function) && (sc.names.lookup t == some .local) && (p.line == pos.line) && !(scope.names.any fun (n, k) => n == t && (k == .local || k == .cell))
theorem swaps_lc {elt : Expr} {gs : List Comprehension} {scope sc : Scope} {pos p : Pos} {t : Str} {l : Nat} {env : Env} (hs : env.scope = sc) (hk : sc.kind = .function) :
    swapsWith (.ListComp elt gs scope pos) (some (.Name t p)) l env = pure (lcStores sc scope t p pos) := by
  have hb : env.blockKind = .function := by unfold Env.blockKind; rw [hs, hk]; rfl
  unfold swapsWith lcStores
  simp only [hb, Env.kindOf, hs, hk, Expr.pos]
/-- a, b = x, y -/
def envOfS (sc : Scope) : Env := { (default : Env) with scope := sc }
def swp (sc : Scope) (ts vs : List Expr) : Option (Option (List Str)) :=
  match swappedStores [.Tuple ts 0 ⟨0, 0, 0, 0⟩] (.Tuple vs 0 ⟨0, 0, 0, 0⟩) (envOfS sc) with
  | .pure r => some r
  | _ => none
theorem swapped_env {t : List Expr} {v : Expr} {env env' : Env} (h : env.scope = env'.scope) : swappedStores t v env = swappedStores t v env' := by
  obtain ⟨⟩ := env
  obtain ⟨⟩ := env'
  simp only at h
  subst h
  rfl
theorem swp_ok {sc : Scope} {ts vs : List Expr} {k k2 : Nat} {p p2 : Pos} {env : Env} {r : Option (List Str)} (hs : env.scope = sc) (h : swp sc ts vs = some r) : swappedStores [.Tuple ts k p] (.Tuple vs k2 p2) env = pure r := by
  have e1 : swappedStores [.Tuple ts k p] (.Tuple vs k2 p2) env = swappedStores [.Tuple ts 0 ⟨0, 0, 0, 0⟩] (.Tuple vs 0 ⟨0, 0, 0, 0⟩) env := rfl
  rw [e1, swapped_env (env' := envOfS sc) hs]
  unfold swp at h
  split at h
  · rename_i e
    cases h
    exact e
  · cases h
def notTup : Expr → Bool
  | .Tuple _ _ _ => false
  | _ => true
theorem swapped_no {t e : Expr} {env : Env} (h : notTup e = true) : swappedStores [t] e env = pure none := by
  cases e <;> first | (cases t <;> rfl) | cases h
theorem swapped_name {x : Str} {p : Pos} {e : Expr} {env : Env} : swappedStores [.Name x p] e env = pure none := by
  cases e <;> rfl
theorem swapped_sub {o i : Expr} {p : Pos} {e : Expr} {env : Env} : swappedStores [.Subscript o i p] e env = pure none := by
  cases e <;> rfl

section
variable {T : Type} {k : Tk T} {g : Glob T} {tb : Tb} {lv : Nat} {X : Cx}
/-! ### judgements of statements -/
def EndOk (k : Tk T) (K : PySem.W.Frag) (H0 : Hp) (F0 F : Fz) (H : Hp) (D : Ends) : Out T → Prop
  | .nx ρ' τ' => ∀ σ' F' H', Okk k K H0 ρ' σ' F' H' → Le k.Z F0 H0 F' H' → Lw F H F' H' → Gd k τ' F' H' → D.nx σ' H'
  | .rt d τ' => ∀ v F' H', Le k.Z F0 H0 F' H' → Gd k τ' F' H' → Rp K k.tv F' H' v d → D.rt v H'
  | .bk ρ' τ' => ∀ σ' F' H', Okk k K H0 ρ' σ' F' H' → Le k.Z F0 H0 F' H' → Lw F H F' H' → Gd k τ' F' H' → D.bk σ' H'
  | .ct ρ' τ' => ∀ σ' F' H', Okk k K H0 ρ' σ' F' H' → Le k.Z F0 H0 F' H' → Lw F H F' H' → Gd k τ' F' H' → D.ct σ' H'
def RSd (k : Tk T) (K : PySem.W.Frag) (t : TS) (f : Ev → T → Option (Out T)) : Prop := ∀ (H0 : Hp) (F0 : Fz) (ρ : Ev) (τ : T) (σ : Sg) (F : Fz) (H : Hp) (o : Out T) (D : Ends), Okk k K H0 ρ σ F H → Le k.Z F0 H0 F H → Gd k τ F H → f ρ τ = some o → EndOk k K H0 F0 F H D o → t D σ H
structure SS (k : Tk T) (g : Glob T) (X : Cx) (st : Stmt) (s : S) : Prop where
  ex : ∃ t, PS X st t ∧ RSd k X.K t (fun ρ τ => ex g s ρ τ)
structure SSs (k : Tk T) (g : Glob T) (X : Cx) (sts : List Stmt) (s : Ss) : Prop where
  ex : ∃ t, PSs X sts t ∧ RSd k X.K t (fun ρ τ => exs g s ρ τ)
theorem EndOk.mono {H0 : Hp} {F0 F F1 : Fz} {H H1 : Hp} {D : Ends} {o : Out T} (h : EndOk k X.K H0 F0 F H D o) (l : Lw F H F1 H1) : EndOk k X.K H0 F0 F1 H1 D o := by
  cases o with
  | nx ρ τ => exact fun σ' F' H' a b c d => h σ' F' H' a b (l.trans c) d
  | rt d τ => exact h
  | bk ρ τ => exact fun σ' F' H' a b c d => h σ' F' H' a b (l.trans c) d
  | ct ρ τ => exact fun σ' F' H' a b c d => h σ' F' H' a b (l.trans c) d

theorem sss_nil : SSs k g X [] .nil := ⟨_, pss_nil, fun H0 F0 ρ τ σ F H o D ok l0 gd e q => by
  simp only [exs] at e
  cases e
  exact q σ F H ok l0 (.refl _ _) gd⟩
theorem sss_cons {st : Stmt} {sts : List Stmt} {s : S} {r : Ss} (h : SS k g X st s) (hs : SSs k g X sts r) : SSs k g X (st :: sts) (.cons s r) := by
  obtain ⟨t, p, rs⟩ := h.ex
  obtain ⟨t2, p2, rs2⟩ := hs.ex
  refine ⟨_, pss_cons p p2, fun H0 F0 ρ τ σ F H o D ok l0 gd e q => ?_⟩
  simp only [exs] at e
  obtain ⟨o1, e1, e2⟩ := bind2 e
  refine rs H0 F0 ρ τ σ F H o1 _ ok l0 gd e1 ?_
  cases o1 with
  | nx ρ1 τ1 => exact fun σ1 F1 H1 ok1 l1 lw1 g1 => rs2 H0 F0 ρ1 τ1 σ1 F1 H1 o D ok1 l1 g1 e2 (q.mono lw1)
  | rt d τ1 => cases e2; exact q
  | bk ρ1 τ1 => cases e2; exact q
  | ct ρ1 τ1 => cases e2; exact q
/-- a name's list is shared from here on -/
theorem sss_frz {sts : List Stmt} {i : Nat} {r : Ss} (hs : SSs k g X sts r) : SSs k g X sts (.frz i r) := by
  obtain ⟨t, p, rs⟩ := hs.ex
  refine ⟨_, p, fun H0 F0 ρ τ σ F H o D ok l0 gd e q => ?_⟩
  simp only [exs] at e
  have key : ∀ (s : Sl) (a : Addr) (d : PD) (ob : HO), ρ[i]? = some (some s) → s.own = true → σ[i]? = some (some (.ref a)) → H a = some ob → ¬ F a → ¬ k.Z a → H0 a = none → Rp X.K k.tv (fun c => F c ∨ c = a) H (.ref a) d → exs g r (put ρ i (.sh d)) τ = some o → t D σ H := by
    intro s0 a d ob e1 so e2 hH hf hz h0 hR e
    have hi : i < ρ.length := (List.getElem?_eq_some_iff.mp e1).1
    have lw : Lw F H (fun c => F c ∨ c = a) H := .more
    refine rs H0 F0 _ τ σ (fun c => F c ∨ c = a) H o D ⟨by unfold put; rw [List.length_set]; exact ok.len, fun j s ej => ?_, fun j es w ej1 eo1 ej2 => ?_, fun j l es fs w ej1 ej2 eo1 eo2 ej3 ej4 => ?_⟩ ⟨fun c h => .inl (l0.sub c h), l0.keep, fun c h => ?_, l0.there⟩ ⟨gd.ok, fun c h => ?_⟩ e (q.mono lw)
    · unfold put at ej
      by_cases hj : i = j
      · subst hj
        rw [List.getElem?_set_self hi] at ej
        cases ej
        exact ⟨_, e2, hR⟩
      · rw [List.getElem?_set_ne hj] at ej
        obtain ⟨w, ew, hw⟩ := ok.sl j s ej
        refine ⟨w, ew, ?_⟩
        cases s with
        | sh d => exact Rp.lw lw hw
        | ow es =>
          obtain ⟨a2, ys, h1, h2, h3⟩ := hw
          exact ⟨a2, ys, h1, h2, h3.lw lw⟩
        | od n kvs =>
          obtain ⟨a2, h1, h2⟩ := hw
          exact ⟨a2, h1, h2.lw lw fun o h => h⟩
    · unfold put at ej1
      by_cases hj : i = j
      · subst hj
        rw [List.getElem?_set_self hi] at ej1
        cases ej1
        cases eo1
      · rw [List.getElem?_set_ne hj] at ej1
        obtain ⟨b, eb, h1, h2, h3⟩ := ok.own j es w ej1 eo1 ej2
        refine ⟨b, eb, fun z => z.elim h1 fun z => ?_, h2, h3⟩
        subst z
        subst eb
        exact hj (ok.sep i j _ es _ e1 ej1 so eo1 e2 ej2)
    · unfold put at ej1 ej2
      by_cases hj : i = j
      · subst hj
        rw [List.getElem?_set_self hi] at ej1
        cases ej1
        cases eo1
      · by_cases hl : i = l
        · subst hl
          rw [List.getElem?_set_self hi] at ej2
          cases ej2
          cases eo2
        · rw [List.getElem?_set_ne hj] at ej1
          rw [List.getElem?_set_ne hl] at ej2
          exact ok.sep j l es fs w ej1 ej2 eo1 eo2 ej3 ej4
    · exact h.elim (fun z => l0.new c z) fun z => .inr (by rw [z]; exact h0)
    · exact h.elim (fun z => gd.fz c z) fun z => by subst z; exact ⟨hz, by rw [hH]; intro z; cases z⟩
  cases eo : getO ρ i with
  | some ds =>
    rw [eo] at e
    have e1 := getO_eq eo
    obtain ⟨v, e2, a, xs, rfl, hH, ra⟩ := ok.sl i _ e1
    obtain ⟨b, eb, hf, hz, h0⟩ := ok.own i _ _ e1 rfl e2
    cases eb
    exact key _ a _ _ e1 rfl e2 hH hf hz h0 (.lst (.inl ⟨.inr rfl, hH⟩) (ra.lw .more)) e
  | none =>
    rw [eo] at e
    cases ed : getD ρ i with
    | none => rw [ed] at e; exact rs H0 F0 ρ τ σ F H o D ok l0 gd e q
    | some p0 =>
      obtain ⟨n, kvs⟩ := p0
      rw [ed] at e
      have e1 : ρ[i]? = some (some (.od n kvs)) := by
        unfold getD at ed
        split at ed
        · cases ed; assumption
        · cases ed
      obtain ⟨v, e2, a, rfl, hd⟩ := ok.sl i _ e1
      obtain ⟨b, eb, hf, hz, h0⟩ := ok.own i _ _ e1 rfl e2
      cases eb
      obtain ⟨ob, hH⟩ : ∃ ob, H a = some ob := by
        rcases hd with ⟨_, r, h1, _⟩ | ⟨_, _, r, h1, _⟩
        · exact ⟨_, h1⟩
        · exact ⟨_, h1⟩
      exact key _ a _ ob e1 rfl e2 hH hf hz h0 (Dd.rp (.inr rfl) (hd.lw .more fun o h => h)) e

/-! ### stores -/
/-- after an expression, a shared datum stored -/
theorem set_ok {H0 : Hp} {F0 : Fz} {ρ : Ev} {τ1 : T} {σ : Sg} {F F1 : Fz} {H H1 : Hp} {i : Nat} {d : PD} {v : V} {D : Ends} {τ : T} (ok : Okk k X.K H0 ρ σ F H) (gd : Gd k τ F H) (l0 : Le k.Z F0 H0 F H) (l1 : Le k.Z F H F1 H1) (g1 : Gd k τ1 F1 H1) (r : Rp X.K k.tv F1 H1 v d) (hi : i < ρ.length)
    (q : EndOk k X.K H0 F0 F H D (.nx (put ρ i (.sh d)) τ1)) : D.nx (σ.set i (some v)) H1 :=
  q _ F1 H1 ((ok.le gd l1).putS r hi) (l0.trans l1) (l1.lw gd) g1
theorem rs_set {i : Nat} {te : TE} {m : E} (h : RX k g X te m) : RSd k X.K (tAsg te (gName i)) (fun ρ τ => ex g (.set i m) ρ τ) := fun H0 F0 ρ τ σ F H o D ok l0 gd e q => by
  simp only [ex] at e
  obtain ⟨⟨d, τ1⟩, e1, e2⟩ := bind2 e
  split at e2
  · rename_i hi
    cases e2
    exact h H0 ρ τ σ F H d τ1 _ ok gd e1 fun v F1 H1 l1 g1 r1 => set_ok ok gd l0 l1 g1 r1 hi q
  · cases e2
theorem Okk.putW {H0 : Hp} {ρ : Ev} {σ : Sg} {F : Fz} {H : Hp} {i : Nat} {s : Sl} {a : Addr} (o : Okk k X.K H0 ρ σ F H) (r : SlOk k X.K F H (.ref a) s) (hf : ¬ F a) (hz : ¬ k.Z a) (h0 : H0 a = none) (hi : i < ρ.length)
    (hne : ∀ (j : Nat) (t : Sl), j ≠ i → ρ[j]? = some (some t) → t.own = true → σ[j]? ≠ some (some (.ref a))) : Okk k X.K H0 (Fh.put ρ i s) (σ.set i (some (.ref a))) F H := by
  unfold Fh.put
  have hs : i < σ.length := by rw [← o.len]; exact hi
  refine ⟨by rw [List.length_set, List.length_set]; exact o.len, fun j s e => ?_, fun j es w e1 eo e2 => ?_, fun j l es fs w e1 e2 eo1 eo2 e3 e4 => ?_⟩
  · by_cases h : i = j
    · subst h
      rw [List.getElem?_set_self hi] at e
      cases e
      exact ⟨_, List.getElem?_set_self hs, r⟩
    · rw [List.getElem?_set_ne h] at e ⊢
      exact o.sl j s e
  · by_cases h : i = j
    · subst h
      rw [List.getElem?_set_self hs] at e2
      cases e2
      exact ⟨a, rfl, hf, hz, h0⟩
    · rw [List.getElem?_set_ne h] at e1 e2
      exact o.own j es w e1 eo e2
  · by_cases h : i = j
    · subst h
      rw [List.getElem?_set_self hs] at e3
      cases e3
      by_cases h2 : i = l
      · exact h2
      · rw [List.getElem?_set_ne h2] at e2 e4
        exact absurd e4 (hne l fs (fun z => h2 z.symm) e2 eo2)
    · by_cases h2 : i = l
      · subst h2
        rw [List.getElem?_set_self hs] at e4
        cases e4
        rw [List.getElem?_set_ne h] at e1 e3
        exact absurd e3 (hne j es (fun z => h z.symm) e1 eo1)
      · rw [List.getElem?_set_ne h] at e1 e3
        rw [List.getElem?_set_ne h2] at e2 e4
        exact o.sep j l es fs w e1 e2 eo1 eo2 e3 e4
/-- what is new stands in no name -/
theorem Okk.noN {H0 : Hp} {ρ : Ev} {σ : Sg} {F : Fz} {H : Hp} {a : Addr} (o : Okk k X.K H0 ρ σ F H) (hn : H a = none) (j : Nat) (t : Sl) (ej : ρ[j]? = some (some t)) (ho : t.own = true) : σ[j]? ≠ some (some (.ref a)) := fun z => by
  obtain ⟨w, ew, hw⟩ := o.sl j _ ej
  rw [z] at ew
  cases ew
  obtain ⟨u, hu⟩ := hw.at_ ho rfl
  rw [hn] at hu
  cases hu
theorem rs_own {i : Nat} {te : TE} {m : E} (h : RF k g X te m) : RSd k X.K (tAsg te (gName i)) (fun ρ τ => ex g (.own i m) ρ τ) := fun H0 F0 ρ τ σ F H o D ok l0 gd e q => by
  simp only [ex] at e
  obtain ⟨⟨d, τ1⟩, e1, e2⟩ := bind2 e
  refine h H0 ρ τ σ F H d τ1 _ ok gd e1 fun v F1 H1 l1 g1 r1 => ?_
  cases d with
  | list ds =>
    simp only at e2
    split at e2
    · rename_i hi
      cases e2
      obtain ⟨a, xs, rfl, hn, hf, hH, ra⟩ := r1
      exact q _ F1 H1 ((ok.le gd l1).putW ⟨a, xs, rfl, hH, ra⟩ hf (gd.newZ hn) (none_of_le l0 hn) hi fun j t hj ej ho => ok.noN hn j t ej ho) (l0.trans l1) (l1.lw gd) g1
    · cases e2
  | _ => cases e2
/-- what is owned is changed -/
theorem Okk.writeS {H0 : Hp} {ρ : Ev} {σ : Sg} {F : Fz} {H : Hp} {i : Nat} {s s' : Sl} {a : Addr} {o0 ob : HO} {τ : T} (o : Okk k X.K H0 ρ σ F H) (gd : Gd k τ F H) (e1 : ρ[i]? = some (some s)) (so : s.own = true) (so' : s'.own = true) (e2 : σ[i]? = some (some (.ref a))) (hH : H a = some o0) (hm : ¬ imm o0)
    (r : Lw F H F (upd H a ob) → SlOk k X.K F (upd H a ob) (.ref a) s') :
    Okk k X.K H0 (Fh.put ρ i s') σ F (upd H a ob) ∧ Lw F H F (upd H a ob) ∧ Gd k τ F (upd H a ob) ∧ ∀ F0, Le k.Z F0 H0 F H → Le k.Z F0 H0 F (upd H a ob) := by
  obtain ⟨b, eb, hf, hz, h0⟩ := o.own i s _ e1 so e2
  cases eb
  have hi : i < ρ.length := (List.getElem?_eq_some_iff.mp e1).1
  have lw : Lw F H F (upd H a ob) := ⟨fun _ h => h, fun b u h c => by
    rw [upd_ne ?_]
    · exact h
    · rintro rfl
      rcases c with c | c
      · exact hf c
      · rw [hH] at h; cases h; exact hm c⟩
  refine ⟨⟨by unfold Fh.put; rw [List.length_set]; exact o.len, fun j t ej => ?_, fun j fs w ej1 eo ej2 => ?_, fun j l fs hs w ej1 ej2 eo1 eo2 ej3 ej4 => ?_⟩, lw, ⟨k.stay _ _ _ gd.ok fun b zb => upd_ne (by rintro rfl; exact hz zb), fun b hb => ⟨(gd.fz b hb).1, ?_⟩⟩, fun F0 l0 => ⟨l0.sub, fun b u h nz => ?_, l0.new, fun b h => ?_⟩⟩
  · unfold Fh.put at ej
    by_cases h : i = j
    · subst h
      rw [List.getElem?_set_self hi] at ej
      cases ej
      exact ⟨_, e2, r lw⟩
    · rw [List.getElem?_set_ne h] at ej
      obtain ⟨w, ew, hw⟩ := o.sl j t ej
      refine ⟨w, ew, ?_⟩
      cases t with
      | sh d => exact Rp.lw lw hw
      | ow fs =>
        obtain ⟨b, zs, rfl, hb, rb⟩ := hw
        refine ⟨b, zs, rfl, ?_, rb.lw lw⟩
        rw [upd_ne ?_]
        · exact hb
        · rintro rfl
          exact h (o.sep i j _ _ _ e1 ej so rfl e2 ew)
      | od n kvs =>
        obtain ⟨b, rfl, hb⟩ := hw
        refine ⟨b, rfl, hb.lw lw fun u hu => ?_⟩
        rw [upd_ne ?_]
        · exact hu
        · rintro rfl
          exact h (o.sep i j _ _ _ e1 ej so rfl e2 ew)
  · unfold Fh.put at ej1
    by_cases h : i = j
    · subst h
      rw [e2] at ej2
      cases ej2
      exact ⟨a, rfl, hf, hz, h0⟩
    · rw [List.getElem?_set_ne h] at ej1
      exact o.own j fs w ej1 eo ej2
  · unfold Fh.put at ej1 ej2
    have get : ∀ (n : Nat) (t : Sl), t.own = true → (ρ.set i (some s'))[n]? = some (some t) → ∃ t', t'.own = true ∧ ρ[n]? = some (some t') := fun n t ht en => by
      by_cases h : i = n
      · subst h; exact ⟨s, so, e1⟩
      · rw [List.getElem?_set_ne h] at en; exact ⟨t, ht, en⟩
    obtain ⟨f1, g1, h1⟩ := get j fs eo1 ej1
    obtain ⟨f2, g2, h2⟩ := get l hs eo2 ej2
    exact o.sep j l f1 f2 w h1 h2 g1 g2 ej3 ej4
  · rw [upd_ne (by rintro rfl; exact hf hb)]
    exact (gd.fz b hb).2
  · rw [upd_ne (by rintro rfl; rw [h0] at h; cases h)]
    exact l0.keep b u h nz
  · by_cases eb : b = a
    · subst eb; exact absurd h0 h
    · rw [upd_ne eb]; exact l0.there b h
/-- an owned list is changed -/
theorem Okk.write {H0 : Hp} {ρ : Ev} {σ : Sg} {F : Fz} {H : Hp} {i : Nat} {ds es : List PD} {a : Addr} {xs ys : List V} {τ : T} (o : Okk k X.K H0 ρ σ F H) (gd : Gd k τ F H) (e1 : ρ[i]? = some (some (.ow ds))) (e2 : σ[i]? = some (some (.ref a))) (hH : H a = some (.lst xs)) (r : RpA X.K k.tv F H ys es) :
    Okk k X.K H0 (Fh.put ρ i (.ow es)) σ F (upd H a (.lst ys)) ∧ Lw F H F (upd H a (.lst ys)) ∧ Gd k τ F (upd H a (.lst ys)) ∧ ∀ F0, Le k.Z F0 H0 F H → Le k.Z F0 H0 F (upd H a (.lst ys)) :=
  o.writeS gd e1 rfl rfl e2 hH (fun z => z) fun lw => ⟨a, ys, rfl, upd_same, r.lw lw⟩
theorem own_at {H0 : Hp} {ρ : Ev} {σ : Sg} {F : Fz} {H : Hp} {i : Nat} {ds : List PD} (o : Okk k X.K H0 ρ σ F H) (h : getO ρ i = some ds) : ∃ a xs, ρ[i]? = some (some (.ow ds)) ∧ σ[i]? = some (some (.ref a)) ∧ H a = some (.lst xs) ∧ RpA X.K k.tv F H xs ds ∧ ¬ k.Z a := by
  have e1 := getO_eq h
  obtain ⟨v, e2, a, xs, rfl, hH, ra⟩ := o.sl i _ e1
  obtain ⟨b, eb, hf, hz, h0⟩ := o.own i _ _ e1 rfl e2
  cases eb
  exact ⟨a, xs, e1, e2, hH, ra, hz⟩

/-! ### the statements -/
theorem ss_set {i : Nat} {x : Str} {e : Expr} {m : E} {pos pos' : Pos} (G : GOk k g tb lv X) (hi : X.N[i]? = some x) (hx : Loc X.env.scope x) (hf : X.fn x = true ∨ X.env.scope.names.lookup x = some .local) (hs : swapsWith e (some (.Name x pos')) pos.line X.env = pure false) (h : SE k g X e m) (hp : m.isPk = false) :
    SS k g X (.Assign [.Name x pos'] e pos) (.set i m) := by
  obtain ⟨t, p, rx, _, _⟩ := h.ex
  exact ⟨_, ps_set G.nd hi hx p hs hf, rs_set (rx hp)⟩
theorem ss_own {i : Nat} {x : Str} {e : Expr} {m : E} {pos pos' : Pos} (G : GOk k g tb lv X) (hi : X.N[i]? = some x) (hx : Loc X.env.scope x) (hf : X.fn x = true ∨ X.env.scope.names.lookup x = some .local) (hs : swapsWith e (some (.Name x pos')) pos.line X.env = pure false) (h : SE k g X e m) (hp : m.isFr = true) :
    SS k g X (.Assign [.Name x pos'] e pos) (.own i m) := by
  obtain ⟨t, p, _, _, rf⟩ := h.ex
  exact ⟨_, ps_set G.nd hi hx p hs hf, rs_own (rf hp)⟩
theorem ss_setLc {i : Nat} {x : Str} {elt tgE iterE : Expr} {ifs : List Expr} {scope : Scope} {pos spos py : Pos} {own : List (Str × Nat)} {tg : Tg} {it : Ir} {c m : E} (G : GOk k g tb lv X) (hi : X.N[i]? = some x) (hl : X.env.scope.names.lookup x = some .local)
    (hs : swapsWith (.ListComp elt [⟨tgE, iterE, ifs, 0⟩] scope pos) (some (.Name x py)) spos.line X.env = pure true) (h : SLC k g X elt tgE iterE ifs scope own tg it c m) : SS k g X (.Assign [.Name x py] (.ListComp elt [⟨tgE, iterE, ifs, 0⟩] scope pos) spos) (.set i (.lc tg it c m)) := by
  obtain ⟨wi, gg, tt, te, hpi, hg, ht, he, r⟩ := h.parts
  exact ⟨_, ps_setLc G.calm G.nd hi hl hs hpi h.ok hg ht he h.it.hs, rs_set r.x⟩
theorem ss_ownLc {i : Nat} {x : Str} {elt tgE iterE : Expr} {ifs : List Expr} {scope : Scope} {pos spos py : Pos} {own : List (Str × Nat)} {tg : Tg} {it : Ir} {c m : E} (G : GOk k g tb lv X) (hi : X.N[i]? = some x) (hl : X.env.scope.names.lookup x = some .local)
    (hs : swapsWith (.ListComp elt [⟨tgE, iterE, ifs, 0⟩] scope pos) (some (.Name x py)) spos.line X.env = pure true) (h : SLC k g X elt tgE iterE ifs scope own tg it c m) : SS k g X (.Assign [.Name x py] (.ListComp elt [⟨tgE, iterE, ifs, 0⟩] scope pos) spos) (.own i (.lc tg it c m)) := by
  obtain ⟨wi, gg, tt, te, hpi, hg, ht, he, r⟩ := h.parts
  exact ⟨_, ps_setLc G.calm G.nd hi hl hs hpi h.ok hg ht he h.it.hs, rs_own r⟩
theorem ss_unp {tgE e : Expr} {tg : Tg} {m : E} {pos : Pos} (hg : SG k X tgE tg) (h : SE k g X e m) (hp : m.isPk = false) (hn : nst tgE = true) (hs : swapsWithSole [tgE] e pos.line X.env = pure false) (hw : swappedStores [tgE] e X.env = pure none) : SS k g X (.Assign [tgE] e pos) (.unp tg m) := by
  obtain ⟨gg, pg, rg⟩ := hg.ex
  obtain ⟨t, p, rx, _, _⟩ := h.ex
  refine ⟨_, ps_asg p pg hs hw (by rw [asg_cons hn]; rfl), fun H0 F0 ρ τ σ F H o D ok l0 gd e q => ?_⟩
  simp only [ex] at e
  obtain ⟨⟨d, τ1⟩, e1, e2⟩ := bind2 e
  obtain ⟨ρ1, e3, e4⟩ := Option.map_eq_some_iff.mp e2
  cases e4
  refine rx hp H0 ρ τ σ F H d τ1 _ ok gd e1 fun v F1 H1 l1 g1 r1 => ?_
  exact rg H0 ρ σ F1 H1 d v ρ1 _ (ok.le gd l1) r1 e3 fun σ' o' _ _ => q σ' F1 H1 o' (l0.trans l1) (l1.lw gd) g1
theorem ss_par2 {i j : Nat} {x y : Str} {a b : Expr} {ma mb : E} {px py pt pos : Pos} {kt k2 : Nat} {pt2 : Pos} (G : GOk k g tb lv X) (hi : X.N[i]? = some x) (hj : X.N[j]? = some y) (hij : i ≠ j) (hx : X.env.scope.names.lookup x = some .local) (hy : X.env.scope.names.lookup y = some .local)
    (hw : swappedStores [.Tuple [.Name x px, .Name y py] kt pt] (.Tuple [a, b] k2 pt2) X.env = pure (some [x, y])) (na : nst a = true) (nb : nst b = true) (ha : SE k g X a ma) (hb : SE k g X b mb) (pa : ma.isPk = false) (pb : mb.isPk = false) :
    SS k g X (.Assign [.Tuple [.Name x px, .Name y py] kt pt] (.Tuple [a, b] k2 pt2) pos) (.par2 i j ma mb) := by
  obtain ⟨ta, pea, xa, _, _⟩ := ha.ex
  obtain ⟨tb', peb, xb, _, _⟩ := hb.ex
  refine ⟨_, ps_par G.calm G.nd hi hj hij hx hy (pa_cons pea (pa_cons peb pa_nil (star_cons nb)) (star_cons na)) hw rfl, fun H0 F0 ρ τ σ F H o D ok l0 gd e q => ?_⟩
  simp only [ex] at e
  obtain ⟨⟨d, τ1⟩, e1, e⟩ := bind2 e
  obtain ⟨⟨d2, τ2⟩, e2, e⟩ := bind2 e
  split at e
  · rename_i hl
    cases e
    refine xa pa H0 ρ τ σ F H d τ1 _ ok gd e1 fun v F1 H1 l1 g1 r1 => ?_
    refine xb pb H0 ρ τ1 σ F1 H1 d2 τ2 _ (ok.le gd l1) g1 e2 fun w F2 H2 l2 g2 r2 => ⟨v, w, rfl, ?_⟩
    have ok2 := (ok.le gd l1).le g1 l2
    exact q _ F2 H2 ((ok2.putS (r1.lw (l2.lw g1)) hl.1).putS r2 (by unfold Fh.put; rw [List.length_set]; exact hl.2)) (l0.trans (l1.trans l2)) ((l1.trans l2).lw gd) g2
  · cases e
theorem ss_par3 {i j l : Nat} {x y z : Str} {a b c : Expr} {ma mb mc : E} {px py pz pt pos : Pos} {kt k2 : Nat} {pt2 : Pos} (G : GOk k g tb lv X) (hi : X.N[i]? = some x) (hj : X.N[j]? = some y) (hl : X.N[l]? = some z) (hij : i ≠ j) (hil : i ≠ l) (hjl : j ≠ l)
    (hx : X.env.scope.names.lookup x = some .local) (hy : X.env.scope.names.lookup y = some .local) (hz : X.env.scope.names.lookup z = some .local)
    (hw : swappedStores [.Tuple [.Name x px, .Name y py, .Name z pz] kt pt] (.Tuple [a, b, c] k2 pt2) X.env = pure (some [x, y, z])) (na : nst a = true) (nb : nst b = true) (nc : nst c = true) (ha : SE k g X a ma) (hb : SE k g X b mb) (hc : SE k g X c mc) (pa : ma.isPk = false) (pb : mb.isPk = false) (pc : mc.isPk = false) :
    SS k g X (.Assign [.Tuple [.Name x px, .Name y py, .Name z pz] kt pt] (.Tuple [a, b, c] k2 pt2) pos) (.par3 i j l ma mb mc) := by
  obtain ⟨ta, pea, xa, _, _⟩ := ha.ex
  obtain ⟨tb', peb, xb, _, _⟩ := hb.ex
  obtain ⟨tc, pec, xc, _, _⟩ := hc.ex
  refine ⟨_, ps_par3 G.calm G.nd hi hj hl hij hil hjl hx hy hz (pa_cons pea (pa_cons peb (pa_cons pec pa_nil (star_cons nc)) (star_cons nb)) (star_cons na)) hw rfl, fun H0 F0 ρ τ σ F H o D ok l0 gd e q => ?_⟩
  simp only [ex] at e
  obtain ⟨⟨d, τ1⟩, e1, e⟩ := bind2 e
  obtain ⟨⟨d2, τ2⟩, e2, e⟩ := bind2 e
  obtain ⟨⟨d3, τ3⟩, e3, e⟩ := bind2 e
  split at e
  · rename_i hh
    cases e
    refine xa pa H0 ρ τ σ F H d τ1 _ ok gd e1 fun v F1 H1 l1 g1 r1 => ?_
    refine xb pb H0 ρ τ1 σ F1 H1 d2 τ2 _ (ok.le gd l1) g1 e2 fun w F2 H2 l2 g2 r2 => ?_
    refine xc pc H0 ρ τ2 σ F2 H2 d3 τ3 _ ((ok.le gd l1).le g1 l2) g2 e3 fun u F3 H3 l3 g3 r3 => ⟨v, w, u, rfl, ?_⟩
    have ok3 := ((ok.le gd l1).le g1 l2).le g2 l3
    have l13 := (l1.trans l2).trans l3
    refine q _ F3 H3 (((ok3.putS ((r1.lw (l2.lw g1)).lw (l3.lw g2)) hh.1).putS (r2.lw (l3.lw g2)) ?_).putS r3 ?_) (l0.trans l13) (l13.lw gd) g3
    · unfold Fh.put; rw [List.length_set]; exact hh.2.1
    · unfold Fh.put; rw [List.length_set, List.length_set]; exact hh.2.2
  · cases e
theorem ss_app {i : Nat} {x : Str} {e : Expr} {m : E} {p ap cp pos : Pos} (pv : PE X (.Name x p) (tVar i)) (hn : nst e = true) (h : SE k g X e m) (hp : m.isPk = false) (hl : (ap.endLine == cp.line) = true) :
    SS k g X (.Expr (.Call (.Attribute (.Name x p) "append" ap) [e] [] cp) pos) (.app i m) := by
  obtain ⟨t, pe, rx, _, _⟩ := h.ex
  have hs : starEach [e] X.env = (false, eval e X.env) :: starEach [] X.env := star_cons hn
  refine ⟨_, ps_expr (pe_bm PySem.F.plainAttrs_list PySem.F.slot_list_append PySem.F.type_list_append mt_append pv (pa_cons pe pa_nil hs) rfl (by rw [hs]; rfl) hl hs rfl) rfl, fun H0 F0 ρ τ σ F H o D ok l0 gd e q => ?_⟩
  simp only [ex] at e
  obtain ⟨⟨d, τ1⟩, e1, e⟩ := bind2 e
  cases eo : getO ρ i with
  | none => rw [eo] at e; cases e
  | some ds =>
    rw [eo] at e
    simp only at e
    split at e
    · rename_i hz
      cases e
      have hz := of_decide_eq_true hz
      obtain ⟨a, xs, er, es, hH, ra, nz⟩ := own_at ok eo
      refine ⟨_, es, .inl ⟨rfl, xs, SqL.of hH⟩, ?_⟩
      refine rx hp H0 ρ τ σ F H d τ1 _ ok gd e1 fun v F1 H1 l1 g1 r1 => ?_
      have ra1 := ra.lw (l1.lw gd)
      have hH1 := l1.keep _ _ hH nz
      obtain ⟨q1, q2, q3, q4⟩ := (ok.le gd l1).write g1 er es hH1 (ra1.append (.cons r1 .nil))
      exact ⟨a, xs, v, rfl, rfl, hH1, by rw [ra.length]; exact hz, q _ F1 _ q1 (q4 F0 (l0.trans l1)) ((l1.lw gd).trans q2) q3⟩
    · cases e
theorem ss_pop {i : Nat} {x : Str} {p ap cp pos : Pos} (pv : PE X (.Name x p) (tVar i)) (hl : (ap.endLine == cp.line) = true) : SS k g X (.Expr (.Call (.Attribute (.Name x p) "pop" ap) [] [] cp) pos) (.pop i) := by
  refine ⟨_, ps_expr (pe_bm0 PySem.F.plainAttrs_list PySem.F.slot_list_pop PySem.F.type_list_pop mt_pop pv rfl hl) rfl, fun H0 F0 ρ τ σ F H o D ok l0 gd e q => ?_⟩
  simp only [ex] at e
  cases eo : getO ρ i with
  | none => rw [eo] at e; cases e
  | some ds =>
    rw [eo] at e
    cases ds with
    | nil => cases e
    | cons d ds =>
      cases e
      obtain ⟨a, xs, er, es, hH, ra, nz⟩ := own_at ok eo
      have hl : xs.length = (d :: ds).length := ra.length
      obtain ⟨q1, q2, q3, q4⟩ := ok.write gd er es hH ra.dropLast
      refine ⟨_, es, .inl ⟨rfl, xs, SqL.of hH⟩, a, xs, xs[xs.length - 1]'(by rw [hl]; simp), rfl, rfl, hH, List.getElem?_eq_getElem _, ?_⟩
      exact q _ F _ q1 (q4 F0 l0) q2 q3
theorem ss_setPop {i j : Nat} {x y : Str} {p ap cp pos pos' : Pos} (G : GOk k g tb lv X) (pv : PE X (.Name x p) (tVar i)) (hl : (ap.endLine == cp.line) = true) (hj : X.N[j]? = some y) (hy : Loc X.env.scope y) (hf : X.fn y = true ∨ X.env.scope.names.lookup y = some .local) :
    SS k g X (.Assign [.Name y pos'] (.Call (.Attribute (.Name x p) "pop" ap) [] [] cp) pos) (.setPop j i) := by
  refine ⟨_, ps_set G.nd hj hy (pe_bm0 PySem.F.plainAttrs_list PySem.F.slot_list_pop PySem.F.type_list_pop mt_pop pv rfl hl) rfl hf, fun H0 F0 ρ τ σ F H o D ok l0 gd e q => ?_⟩
  simp only [ex] at e
  cases eo : getO ρ i with
  | none => rw [eo] at e; cases e
  | some ds =>
    rw [eo] at e
    cases ds with
    | nil => cases e
    | cons d ds =>
      simp only at e
      split at e
      · rename_i hj
        cases e
        obtain ⟨a, xs, er, es, hH, ra, nz⟩ := own_at ok eo
        have hl : xs.length = (d :: ds).length := ra.length
        obtain ⟨q1, q2, q3, q4⟩ := ok.write gd er es hH ra.dropLast
        have hg : (d :: ds)[xs.length - 1]? = some ((d :: ds).getLast (by simp)) := by
          rw [hl, List.getLast_eq_getElem]
          exact List.getElem?_eq_getElem _
        obtain ⟨v, ev, rv⟩ := ra.get hg
        refine ⟨_, es, .inl ⟨rfl, xs, SqL.of hH⟩, a, xs, v, rfl, rfl, hH, ev, ?_⟩
        exact q _ F _ (q1.putS (rv.lw q2) (by unfold Fh.put; rw [List.length_set]; exact hj.1)) (q4 F0 l0) q2 q3
      · cases e
theorem ss_popAdd {i j : Nat} {k0 : Int} {x y : Str} {n0 : Nat} {p ap cp pos pos' p2 p3 p4 p5 : Pos} (G : GOk k g tb lv X) (pv : PE X (.Name x p) (tVar i)) (pj : PE X (.Name y p2) (tVar j)) (hl : (ap.endLine == cp.line) = true) (hj : X.N[j]? = some y) (hy : Loc X.env.scope y) (hf : X.fn y = true ∨ X.env.scope.names.lookup y = some .local) (hs : PlainIx (.Constant (.int k0) n0 p5)) :
    SS k g X (.Assign [.Name y pos'] (.BinOp (.Name y p2) .Add (.Subscript (.Call (.Attribute (.Name x p) "pop" ap) [] [] cp) (.Constant (.int k0) n0 p5) p3) p4) pos) (.popAdd j i k0) := by
  refine ⟨_, ps_set G.nd hj hy (pe_op op_add pj (pe_ix ix_seq (pe_bm0 PySem.F.plainAttrs_list PySem.F.slot_list_pop PySem.F.type_list_pop mt_pop pv rfl hl) pe_int hs)) rfl hf, fun H0 F0 ρ τ σ F H o D ok l0 gd e q => ?_⟩
  simp only [ex] at e
  cases eo : getO ρ i with
  | none => rw [eo] at e; cases e
  | some ds =>
    cases ds with
    | nil => rw [eo] at e; cases e
    | cons d ds =>
      cases eg : get ρ j with
      | none => rw [eo, eg] at e; cases e
      | some d0 =>
        rw [eo, eg] at e
        cases d0 with
        | int n =>
          simp only at e
          split at e
          · rename_i zs eL
            split at e
            · rename_i m e3
              split at e
              · rename_i hij
                cases e
                have er0 := get_eq eg
                have hjl : j < ρ.length := (List.getElem?_eq_some_iff.mp er0).1
                obtain ⟨v0, ev0, rv0⟩ := ok.sl j _ er0
                cases rv0
                obtain ⟨a, xs, er, es, hH, ra, nz⟩ := own_at ok eo
                have hl : xs.length = (d :: ds).length := ra.length
                obtain ⟨q1, q2, q3, q4⟩ := ok.write gd er es hH ra.dropLast
                have hg : (d :: ds)[xs.length - 1]? = some ((d :: ds).getLast (by simp)) := by
                  rw [hl, List.getLast_eq_getElem]
                  exact List.getElem?_eq_getElem _
                rw [eL] at hg
                obtain ⟨v, ev, rv⟩ := ra.get hg
                refine ⟨_, ev0, _, es, .inl ⟨rfl, xs, SqL.of hH⟩, a, xs, v, rfl, rfl, hH, ev, ?_⟩
                cases rv.lw q2 with
                | tup h1 r1 =>
                  obtain ⟨u, hu, ru⟩ := atI_rpa r1 e3
                  cases ru
                  exact .inr (.inl ⟨_, _, _, _, rfl, rfl, h1.sq, hu, n, m, rfl, rfl, q _ F _ (q1.putS (.int _) (by unfold Fh.put; rw [List.length_set]; exact hjl)) (q4 F0 l0) q2 q3⟩)
              · cases e
            · cases e
          · cases e
        | _ => cases e
theorem ss_stx {i : Nat} {x : Str} {ke e : Expr} {mk m : E} {p tp pos : Pos} (pv : PE X (.Name x p) (tVar i)) (hk : SE k g X ke mk) (h : SE k g X e m) (hp : m.isPk = false) (hn : nst ke = true) (hc : notComp e = true)
    (ha : ∀ v, assign (.Subscript (.Name x p) ke tp) X.env v = (do
      let ov ← holding [v] (eval (.Name x p) X.env)
      let iv ← holding [v, ov] (eval ke X.env)
      standAt tp
      holding [v, ov, iv] (setItem ov iv v)
      release [v, ov, iv] [])) : SS k g X (.Assign [.Subscript (.Name x p) ke tp] e pos) (.stx i mk m) := by
  obtain ⟨t, pe, rx, _, _⟩ := h.ex
  obtain ⟨tk, pk, _, bk, _⟩ := hk.ex
  refine ⟨_, ps_asg pe (pg_sub pv pk set_list ha) (sole_no hc _ _) swapped_sub rfl, fun H0 F0 ρ τ σ F H o D ok l0 gd e q => ?_⟩
  simp only [ex] at e
  obtain ⟨⟨d, τ1⟩, e1, e⟩ := bind2 e
  obtain ⟨⟨dk, τ2⟩, e2, e⟩ := bind2 e
  cases eo : getO ρ i with
  | none => rw [eo] at e; cases e
  | some ds =>
    rw [eo] at e
    obtain ⟨a, xs, er, es, hH, ra, nz⟩ := own_at ok eo
    refine rx hp H0 ρ τ σ F H d τ1 _ ok gd e1 fun v F1 H1 l1 g1 r1 => ⟨_, es, ?_⟩
    refine bk H0 ρ τ1 σ F1 H1 dk τ2 _ (ok.le gd l1) g1 e2 fun w F2 H2 l2 g2 r2 => ?_
    cases dk with
    | int n =>
      simp only at e
      obtain ⟨j, e3, e4⟩ := Option.map_eq_some_iff.mp e
      cases e4
      cases r2.int
      have l12 := l1.trans l2
      have hH2 := l12.keep _ _ hH nz
      have ra2 := ra.lw (l12.lw gd)
      obtain ⟨q1, q2, q3, q4⟩ := ((ok.le gd l1).le g1 l2).write g2 er es hH2 (RpA.set (r1.lw (l2.lw g1)) j ra2)
      exact ⟨a, xs, n, j, rfl, rfl, hH2, by rw [ra.length]; exact e3, q _ F2 _ q1 (q4 F0 (l0.trans l12)) ((l12.lw gd).trans q2) q3⟩
    | _ => cases e
theorem ss_augA {i : Nat} {x : Str} {e : Expr} {m : E} {pos pos' : Pos} (G : GOk k g tb lv X) (hi : X.N[i]? = some x) (hx : Loc X.env.scope x) (hf : X.fn x = true ∨ X.env.scope.names.lookup x = some .local) (h : SE k g X e m) : SS k g X (.AugAssign (.Name x pos') .Add e pos) (.aug i .add m) := by
  obtain ⟨t, pe, _, rb, _⟩ := h.ex
  refine ⟨_, ps_aug G.nd hi hx pe ip_add hf, fun H0 F0 ρ τ σ F H o D ok l0 gd e q => ?_⟩
  simp only [ex] at e
  cases eg : get ρ i with
  | none => rw [eg] at e; cases e
  | some d0 =>
    rw [eg] at e
    have er := get_eq eg
    have hi : i < ρ.length := (List.getElem?_eq_some_iff.mp er).1
    obtain ⟨v, ev, rv⟩ := ok.sl i _ er
    refine ⟨v, ev, ?_⟩
    cases d0 with
    | int n =>
      obtain ⟨⟨d, τ1⟩, e1, e⟩ := bind2 e
      cases rv
      refine rb H0 ρ τ σ F H d τ1 _ ok gd e1 fun w F1 H1 l1 g1 r1 => ?_
      cases d with
      | int j =>
        cases e
        cases r1.int
        exact ⟨n, j, rfl, rfl, q _ F1 H1 ((ok.le gd l1).putS (.int _) hi) (l0.trans l1) (l1.lw gd) g1⟩
      | _ => cases e
    | _ => cases e
theorem ss_augS0 {i : Nat} {x : Str} {e : Expr} {m : E} {pos pos' : Pos} (G : GOk k g tb lv X) (hi : X.N[i]? = some x) (hx : Loc X.env.scope x) (hf : X.fn x = true ∨ X.env.scope.names.lookup x = some .local) (h : SE k g X e m) : SS k g X (.AugAssign (.Name x pos') .Sub e pos) (.aug i .sub m) := by
  obtain ⟨t, pe, _, rb, _⟩ := h.ex
  refine ⟨_, ps_aug G.nd hi hx pe ip_sub hf, fun H0 F0 ρ τ σ F H o D ok l0 gd e q => ?_⟩
  simp only [ex] at e
  cases eg : get ρ i with
  | none => rw [eg] at e; cases e
  | some d0 =>
    rw [eg] at e
    have er := get_eq eg
    have hi : i < ρ.length := (List.getElem?_eq_some_iff.mp er).1
    obtain ⟨v, ev, rv⟩ := ok.sl i _ er
    refine ⟨v, ev, ?_⟩
    cases d0 with
    | int n =>
      obtain ⟨⟨d, τ1⟩, e1, e⟩ := bind2 e
      cases rv
      refine rb H0 ρ τ σ F H d τ1 _ ok gd e1 fun w F1 H1 l1 g1 r1 => ?_
      cases d with
      | int j =>
        cases e
        cases r1.int
        exact ⟨n, j, rfl, rfl, q _ F1 H1 ((ok.le gd l1).putS (.int _) hi) (l0.trans l1) (l1.lw gd) g1⟩
      | _ => cases e
    | _ => cases e
theorem ss_expr {e : Expr} {m : E} {pos : Pos} (h : SE k g X e m) (hc : notComp e = true) : SS k g X (.Expr e pos) (.expr m) := by
  obtain ⟨t, pe, _, rb, _⟩ := h.ex
  refine ⟨_, ps_expr pe (swaps_no hc _ _ _), fun H0 F0 ρ τ σ F H o D ok l0 gd e q => ?_⟩
  simp only [ex] at e
  obtain ⟨⟨d, τ1⟩, e1, e2⟩ := Option.map_eq_some_iff.mp e
  cases e2
  exact rb H0 ρ τ σ F H d τ1 _ ok gd e1 fun w F1 H1 l1 g1 r1 => q σ F1 H1 (ok.le gd l1) (l0.trans l1) (l1.lw gd) g1
theorem ss_ret {e : Expr} {m : E} {pos : Pos} (h : SE k g X e m) (hp : m.isPk = false) : SS k g X (.Return (some e) pos) (.ret m) := by
  obtain ⟨t, pe, rx, _, _⟩ := h.ex
  refine ⟨_, ps_ret pe, fun H0 F0 ρ τ σ F H o D ok l0 gd e q => ?_⟩
  simp only [ex] at e
  obtain ⟨⟨d, τ1⟩, e1, e2⟩ := Option.map_eq_some_iff.mp e
  cases e2
  exact rx hp H0 ρ τ σ F H d τ1 _ ok gd e1 fun w F1 H1 l1 g1 r1 => q w F1 H1 (l0.trans l1) g1 r1
theorem ss_retN {pos : Pos} : SS k g X (.Return none pos) .retN := ⟨_, ps_retN, fun H0 F0 ρ τ σ F H o D ok l0 gd e q => by
  simp only [ex] at e
  cases e
  exact q .non F H l0 gd .non⟩
theorem ss_pass {pos : Pos} : SS k g X (.Pass pos) .pass := ⟨_, ps_pass, fun H0 F0 ρ τ σ F H o D ok l0 gd e q => by
  simp only [ex] at e
  cases e
  exact q σ F H ok l0 (.refl _ _) gd⟩
theorem ss_brk {pos : Pos} : SS k g X (.Break pos) .brk := ⟨_, ps_break, fun H0 F0 ρ τ σ F H o D ok l0 gd e q => by
  simp only [ex] at e
  cases e
  exact q σ F H ok l0 (.refl _ _) gd⟩
theorem ss_cont {pos : Pos} : SS k g X (.Continue pos) .cont := ⟨_, ps_continue, fun H0 F0 ρ τ σ F H o D ok l0 gd e q => by
  simp only [ex] at e
  cases e
  exact q σ F H ok l0 (.refl _ _) gd⟩
theorem ss_ife {c : Expr} {a b : List Stmt} {t : E} {sa sb : Ss} {pos : Pos} (hc : ST k g X c t) (ha : SSs k g X a sa) (hb : SSs k g X b sb) : SS k g X (.If c a b pos) (.ife t sa sb) := by
  obtain ⟨tc, pc, rc⟩ := hc.ex
  obtain ⟨ta, pa, ra⟩ := ha.ex
  obtain ⟨tb', pb, rb⟩ := hb.ex
  refine ⟨_, ps_if pc pa pb, fun H0 F0 ρ τ σ F H o D ok l0 gd e q => ?_⟩
  simp only [ex] at e
  obtain ⟨⟨z, τ1⟩, e1, e⟩ := bind2 e
  refine rc H0 ρ τ σ F H z τ1 _ ok gd e1 fun F1 H1 l1 g1 => ?_
  cases z with
  | true =>
    rw [if_pos rfl] at e ⊢
    exact ra H0 F0 ρ τ1 σ F1 H1 o D (ok.le gd l1) (l0.trans l1) g1 e (q.mono (l1.lw gd))
  | false =>
    rw [if_neg Bool.false_ne_true] at e ⊢
    exact rb H0 F0 ρ τ1 σ F1 H1 o D (ok.le gd l1) (l0.trans l1) g1 e (q.mono (l1.lw gd))
theorem ss_whl {c : Expr} {b : List Stmt} {t : E} {sb : Ss} {pos : Pos} (hp : PassesOwn (model X.prog X.w) X.A X.env X.xe) (hc : ST k g X c t) (hb : SSs k g X b sb) : SS k g X (.While c b [] pos) (.whl t sb) := by
  obtain ⟨tc, pc, rc⟩ := hc.ex
  obtain ⟨tb', pb, rb⟩ := hb.ex
  refine ⟨_, ps_while hp pc pb, fun H0 F0 ρ τ σ F H o D ok l0 gd e q => ?_⟩
  simp only [ex] at e
  refine ⟨fun n σ2 H2 => ∃ (ρ2 : Ev) (τ2 : T) (F2 : Fz), Okk k X.K H0 ρ2 σ2 F2 H2 ∧ Le k.Z F0 H0 F2 H2 ∧ Lw F H F2 H2 ∧ Gd k τ2 F2 H2 ∧ loopW (fun ρ τ => evT g t ρ τ) (exs g sb) n ρ2 τ2 = some o, ⟨FUEL, ρ, τ, F, ok, l0, .refl _ _, gd, e⟩, ?_⟩
  rintro n σ2 H2 ⟨ρ2, τ2, F2, ok2, l2, lw2, g2, e2⟩
  cases n with
  | zero => cases e2
  | succ n =>
    rw [loopW] at e2
    obtain ⟨⟨z, τ3⟩, e3, e4⟩ := bind2 e2
    refine rc H0 ρ2 τ2 σ2 F2 H2 z τ3 _ ok2 g2 e3 fun F3 H3 l3 g3 => ?_
    have ok3 := ok2.le g2 l3
    have lw3 := lw2.trans (l3.lw g2)
    cases z with
    | false =>
      rw [if_neg Bool.false_ne_true] at e4 ⊢
      cases e4
      exact q σ2 F3 H3 ok3 (l2.trans l3) lw3 g3
    | true =>
      rw [if_pos rfl] at e4 ⊢
      obtain ⟨o1, e5, e6⟩ := bind2 e4
      refine ⟨_, fun σ' H' h => ⟨n, Nat.lt_succ_self n, h⟩, ?_⟩
      refine rb H0 F0 ρ2 τ3 σ2 F3 H3 o1 _ ok3 (l2.trans l3) g3 e5 ?_
      cases o1 with
      | nx ρ4 τ4 => exact fun σ4 F4 H4 ok4 l4 lw4 g4 => ⟨ρ4, τ4, F4, ok4, l4, lw3.trans lw4, g4, e6⟩
      | ct ρ4 τ4 => exact fun σ4 F4 H4 ok4 l4 lw4 g4 => ⟨ρ4, τ4, F4, ok4, l4, lw3.trans lw4, g4, e6⟩
      | bk ρ4 τ4 => cases e6; exact fun σ4 F4 H4 ok4 l4 lw4 g4 => q σ4 F4 H4 ok4 l4 (lw3.trans lw4) g4
      | rt d τ4 => cases e6; exact fun v F4 H4 l4 g4 r4 => q v F4 H4 l4 g4 r4
theorem ss_fr {tgE iterE : Expr} {b : List Stmt} {tg : Tg} {it : Ir} {sb : Ss} {pos : Pos} (hp : PassesOwn (model X.prog X.w) X.A X.env X.xe) (hc : X.calm = true) (hg : SG k X tgE tg) (hi : SI k g X tgE iterE it) (hb : SSs k g X b sb) : SS k g X (.For tgE iterE b [] pos) (.fr tg it sb) := by
  obtain ⟨wi, pi, ri⟩ := hi.ex
  obtain ⟨gg, pg, rg⟩ := hg.ex
  obtain ⟨tb', pb, rb⟩ := hb.ex
  refine ⟨_, ps_for hp hc pi pg pb hi.hs, fun H0 F0 ρ τ σ F H o D ok l0 gd e q => ?_⟩
  simp only [ex] at e
  obtain ⟨⟨ds, τ1⟩, e1, e⟩ := bind2 e
  refine ri H0 ρ τ σ F H ds τ1 _ ok gd e1 fun J F1 H1 l1 g1 wk => ?_
  obtain ⟨Gp, Y, w, hG, hY⟩ := wk
  have lw1 := l1.lw gd
  refine for_it w (fun i σ2 H2 => ∃ (ρ2 : Ev) (τ2 : T) (F2 : Fz), Okk k X.K H0 ρ2 σ2 F2 H2 ∧ Le k.Z F0 H0 F2 H2 ∧ Lw F1 H1 F2 H2 ∧ Gd k τ2 F2 H2 ∧ loopF (bindT tg) (exs g sb) (ds.drop i) ρ2 τ2 = some o)
    ⟨ρ, τ1, F1, ok.le gd l1, l0.trans l1, .refl _ _, g1, e⟩ ?_ ?_ ?_
  · rintro i σ2 H2 hi ⟨ρ2, τ2, F2, ok2, l2, lw2, g2, e2⟩
    exact hG F2 H2 lw2
  · rintro i x σ2 H2 H3 hi ⟨ρ2, τ2, F2, ok2, l2, lw2, g2, e2⟩ y
    obtain ⟨l3, g3, dd, hdd, rd⟩ := hY i H2 x H3 hi y F2 τ2 lw2 g2
    have hdrop : ds.drop i = dd :: ds.drop (i + 1) := by
      rw [List.drop_eq_getElem_cons hi]
      rw [List.getElem?_eq_getElem hi] at hdd
      cases hdd
      rfl
    rw [hdrop, loopF] at e2
    obtain ⟨ρ3, e3, e4⟩ := bind2 e2
    obtain ⟨o1, e5, e6⟩ := bind2 e4
    have lw3 := lw2.trans (l3.lw g2)
    refine rg H0 ρ2 σ2 F2 H3 dd x ρ3 _ (ok2.le g2 l3) rd e3 fun σ3 ok3 _ _ => ?_
    refine rb H0 F0 ρ3 τ2 σ3 F2 H3 o1 _ ok3 (l2.trans l3) g3 e5 ?_
    cases o1 with
    | nx ρ4 τ4 => exact fun σ4 F4 H4 ok4 l4 lw4 g4 => ⟨ρ4, τ4, F4, ok4, l4, lw3.trans lw4, g4, e6⟩
    | ct ρ4 τ4 => exact fun σ4 F4 H4 ok4 l4 lw4 g4 => ⟨ρ4, τ4, F4, ok4, l4, lw3.trans lw4, g4, e6⟩
    | bk ρ4 τ4 => cases e6; exact fun σ4 F4 H4 ok4 l4 lw4 g4 => q σ4 F4 H4 ok4 l4 ((lw1.trans lw3).trans lw4) g4
    | rt d τ4 => cases e6; exact fun v F4 H4 l4 g4 r4 => q v F4 H4 l4 g4 r4
  · rintro σ2 H2 ⟨ρ2, τ2, F2, ok2, l2, lw2, g2, e2⟩
    rw [List.drop_length, loopF] at e2
    cases e2
    exact q σ2 F2 H2 ok2 l2 (lw1.trans lw2) g2
end
end Fh
namespace Fh
open PySem L2 PyProof.Rows

section
variable {T : Type} {k : Tk T} {g : Glob T} {tb : Tb} {lv : Nat} {X : Cx}
/-! ### isinstance -/
def tyName : PD → String
  | .none => "NoneType"
  | .bool _ => "bool"
  | .int _ => "int"
  | .str _ => "str"
  | .list _ => "list"
  | .tuple _ => "tuple"
  | .dict _ => "dict"
theorem tyx_rb {F : Fz} {H : Hp} {v : V} {d : PD} (h : Rb X.K k.Z k.tv F H v d) (n : ∀ kvs, d ≠ .dict kvs) : TyX X.K H v (.type (tyName d)) := by
  cases d with
  | none => cases h.none; exact .base .non
  | bool c => cases h.bool; exact .base (.bl c)
  | int i => cases h.int; exact .base (.int i)
  | str s => cases h.str; exact .base (.str s)
  | list ds =>
    obtain ⟨a, xs, rfl, h1, r⟩ := h.list
    rcases h1 with (h1 | ⟨o, h1⟩) | ⟨o, its, m, h1, h2, _⟩
    · exact .base (.lst h1)
    · exact .base (.frz h1)
    · exact .kList h1 h2
  | tuple ds =>
    obtain ⟨a, xs, rfl, h1, r⟩ := h.tuple
    rcases h1 with (h1 | ⟨o, h1⟩) | ⟨o, its, m, h1, h2, _⟩
    · exact .base (.tup h1)
    · exact .fTuple h1
    · exact .kTuple h1 h2
  | dict kvs => exact absurd rfl (n kvs)
def isiTy : Bi → Option String
  | .isList => some "list"
  | .isTuple => some "tuple"
  | .isBool => some "bool"
  | .isInt => some "int"
  | .isStr => some "str"
  | _ => none
theorem kit_fact {b : Bi} {ty : String} (hb : isiTy b = some ty) {d r : PD} (e : biD b [d] = some r) : ∃ c, r = .bool c ∧ kitB (tyName d) ty = some c ∧ ∀ kvs, d ≠ .dict kvs := by
  cases b <;> cases hb <;> cases d <;> first
    | (cases e; exact ⟨_, rfl, (by rw [tyName]; decide +kernel), fun _ z => nomatch z⟩)
    | cases e
theorem se_isi {b : Bi} {ty : String} {x y : Str} {p p2 pos : Pos} {e : Expr} {m : E} (hb : isiTy b = some ty) (G : GOk k g tb lv X) (hg : Gl X x) (hx : x ∈ tb.bl) (ex : x = "isinstance") (hg2 : Gl X y) (hy : y ∈ tb.bl) (hv : bootBuiltins y = some (.type ty)) (hn1 : y ≠ "__name__") (hn2 : (y == ("__debug__" : Str)) = false) (hn : nst e = true) (h : SE k g X e m) :
    SE k g X (.Call (.Name x p) [e, .Name y p2] [] pos) (.bi b (.cons m .nil)) := by
  obtain ⟨t, pe, _, rb, _⟩ := h.ex
  subst ex
  refine .ofX (pe_callB call_isi hg (G.blt _ hx) PyProof.Rows.boot_isinstance (pa_cons pe (pa_cons (pe_bltn (v := .ty ty) hg2 (G.blt _ hy) hv rfl hn1 hn2) pa_nil (star_cons rfl)) (star_cons hn)) (by decide) (by decide) (star_cons hn) rfl) (fun H0 ρ τ σ F H d τ' Q ok gd e q => ?_) (by cases b <;> first | rfl | cases hb)
  rw [ev] at e
  obtain ⟨⟨ds, τ1⟩, e1, e⟩ := bind2 e
  obtain ⟨d', e2, e3⟩ := Option.map_eq_some_iff.mp e
  cases e3
  rw [evs] at e1
  obtain ⟨⟨d1, τ2⟩, e4, e5⟩ := bind2 e1
  rw [evs] at e5
  cases e5
  obtain ⟨c, rfl, e6, e7⟩ := kit_fact hb e2
  refine rb H0 ρ τ σ F H d1 _ _ ok gd e4 fun v F1 H1 l1 g1 r1 => ?_
  exact ⟨v, .ty ty, _, _, c, rfl, .ty ty, tyx_rb r1 e7, kit_ty e6, q _ F1 H1 l1 g1 (.bl c)⟩

/-! ### methods -/
theorem se_index {o e : Expr} {a m : E} {ap cp : Pos} (hu : X.A.units + 65 < cLine) (ha : SE k g X o a) (hb : attributeBase o "index" X.env (eval o X.env) = eval o X.env) (hn : nst e = true) (h : SE k g X e m) (hl : (ap.endLine == cp.line) = true) :
    SE k g X (.Call (.Attribute o "index" ap) [e] [] cp) (.me .index a (.cons m .nil)) := by
  obtain ⟨ta, pa, _, ba, _⟩ := ha.ex
  obtain ⟨t, pe, _, rb, _⟩ := h.ex
  have hs : starEach [e] X.env = (false, eval e X.env) :: starEach [] X.env := star_cons hn
  refine .ofX (pe_bm PySem.F.plainAttrs_list PySem.F.slot_list_index PySem.F.type_list_index (mt_indexD hu) pa (pa_cons pe pa_nil hs) hb (by rw [hs]; rfl) hl hs rfl) (fun H0 ρ τ σ F H d τ' Q ok gd e q => ?_) rfl
  rw [ev] at e
  obtain ⟨⟨d1, τ1⟩, e1, e⟩ := bind2 e
  obtain ⟨⟨ds, τ2⟩, e2, e⟩ := bind2 e
  obtain ⟨d', e3, e4⟩ := Option.map_eq_some_iff.mp e
  cases e4
  rw [evs] at e2
  obtain ⟨⟨d2, τ3⟩, e5, e6⟩ := bind2 e2
  rw [evs] at e6
  cases e6
  refine ba H0 ρ τ σ F H d1 _ _ ok gd e1 fun v F1 H1 l1 g1 r1 => ?_
  cases d1 with
  | list dl =>
    change (if (SeqAt.shaped d2 && SeqAt.shaped (.list dl)) = true then (dl.findIdx? fun z => PyData.eqv z d2).map fun j => PyData.int (j : Nat) else none) = some d at e3
    split at e3
    · rename_i hsh
      rw [Bool.and_eq_true] at hsh
      obtain ⟨j, e7, e8⟩ := Option.map_eq_some_iff.mp e3
      cases e8
      obtain ⟨a1, xs, rfl, hq, ra⟩ := r1.list
      refine ⟨.inl ⟨rfl, xs, hq⟩, ?_⟩
      refine rb H0 ρ τ1 σ F1 H1 _ _ _ (ok.le gd l1) g1 e5 fun w F2 H2 l2 g2 r2 => ?_
      obtain ⟨hj, h1, h2⟩ := List.findIdx?_eq_some_iff_getElem.mp e7
      refine ⟨a1, w, _, _, j, _, rfl, rfl, (r1.le g1 l2).dp (SeqAt.canLay_of_shaped hsh.2), r2.dp (SeqAt.canLay_of_shaped hsh.1), hsh.2, hsh.1, List.getElem?_eq_getElem hj, h1, fun m' z hm hz => ?_, q _ F2 H2 (l1.trans l2) g2 (.int _)⟩
      have hm2 := h2 m' hm
      rw [List.getElem?_eq_getElem (Nat.lt_trans hm hj)] at hz
      cases hz
      simpa using hm2
    · cases e3
  | _ => cases e3
theorem strs_rpa {F : Fz} {H : Hp} : ∀ {ds : List PD} {vs : List V} {ns : List Str}, RpA X.K k.tv F H vs ds → strsOf ds = some ns → vs = ns.map V.str
  | _, _, _, .nil, e => by cases e; rfl
  | _, _, _, .cons (d := d) h t, e => by
    cases d with
    | str i =>
      rw [strsOf] at e
      obtain ⟨r, e1, e2⟩ := Option.map_eq_some_iff.mp e
      cases e2
      cases h
      rw [strs_rpa t e1]
      rfl
    | _ => cases e
theorem star1 {e : Expr} (hn : nst e = true) : starEach [e] X.env = [(false, eval e X.env)] := star_cons hn
theorem se_join {o e : Expr} {a m : E} {ap cp : Pos} (ha : SE k g X o a) (hb : attributeBase o "join" X.env (eval o X.env) = eval o X.env) (hn : nst e = true) (h : SE k g X e m) (hl : (ap.endLine == cp.line) = true) :
    SE k g X (.Call (.Attribute o "join" ap) [e] [] cp) (.me .join a (.cons m .nil)) := by
  obtain ⟨ta, pa, _, ba, _⟩ := ha.ex
  obtain ⟨t, pe, _, rb, _⟩ := h.ex
  refine .ofX (pe_join pa pe (star1 hn) hb hl) (fun H0 ρ τ σ F H d τ' Q ok gd e q => ?_) rfl
  rw [ev] at e
  obtain ⟨⟨d1, τ1⟩, e1, e⟩ := bind2 e
  obtain ⟨⟨ds, τ2⟩, e2, e⟩ := bind2 e
  obtain ⟨d', e3, e4⟩ := Option.map_eq_some_iff.mp e
  cases e4
  rw [evs] at e2
  obtain ⟨⟨d2, τ3⟩, e5, e6⟩ := bind2 e2
  rw [evs] at e6
  cases e6
  refine ba H0 ρ τ σ F H d1 _ _ ok gd e1 fun v F1 H1 l1 g1 r1 => ?_
  cases d1 with
  | str z =>
    cases r1.str
    refine ⟨⟨_, rfl⟩, rb H0 ρ τ1 σ F1 H1 d2 _ _ (ok.le gd l1) g1 e5 fun w F2 H2 l2 g2 r2 => ?_⟩
    cases d2 with
    | list xs =>
      unfold pme at e3
      simp only at e3
      split at e3
      · rename_i ys hys
        obtain ⟨hz, e7⟩ := ite_some e3
        subst e7
        obtain ⟨b, vs, rfl, hb2, rr⟩ := r2.list
        rw [strs_rpa rr hys] at hb2
        exact ⟨_, b, ys, rfl, rfl, .inl hb2, of_decide_eq_true hz, q _ F2 H2 (l1.trans l2) g2 (.str _)⟩
      · cases e3
    | _ => cases e3
  | _ => cases e3
theorem se_count {o e : Expr} {a m : E} {ap cp : Pos} (ha : SE k g X o a) (hb : attributeBase o "count" X.env (eval o X.env) = eval o X.env) (hn : nst e = true) (h : SE k g X e m) (hl : (ap.endLine == cp.line) = true) :
    SE k g X (.Call (.Attribute o "count" ap) [e] [] cp) (.me .count a (.cons m .nil)) := by
  obtain ⟨ta, pa, _, ba, _⟩ := ha.ex
  obtain ⟨t, pe, _, rb, _⟩ := h.ex
  refine .ofX (pe_m1 PySem.F.slot_str_count PySem.F.type_str_count mt_count pa pe (star1 hn) hb hl) (fun H0 ρ τ σ F H d τ' Q ok gd e q => ?_) rfl
  rw [ev] at e
  obtain ⟨⟨d1, τ1⟩, e1, e⟩ := bind2 e
  obtain ⟨⟨ds, τ2⟩, e2, e⟩ := bind2 e
  obtain ⟨d', e3, e4⟩ := Option.map_eq_some_iff.mp e
  cases e4
  rw [evs] at e2
  obtain ⟨⟨d2, τ3⟩, e5, e6⟩ := bind2 e2
  rw [evs] at e6
  cases e6
  refine ba H0 ρ τ σ F H d1 _ _ ok gd e1 fun v F1 H1 l1 g1 r1 => ?_
  cases d1 with
  | str z =>
    cases r1.str
    refine ⟨⟨_, rfl⟩, rb H0 ρ τ1 σ F1 H1 d2 _ _ (ok.le gd l1) g1 e5 fun w F2 H2 l2 g2 r2 => ?_⟩
    cases d2 with
    | str y =>
      cases e3
      cases r2.str
      exact ⟨_, _, rfl, rfl, q _ F2 H2 (l1.trans l2) g2 (.int _)⟩
    | _ => cases e3
  | _ => cases e3
end
end Fh
namespace Fh
open PySem L2 PyProof.Rows

/-! ### dicts that no one else holds -/
section
variable {κ : Type} [DecidableEq κ] {f : κ → List L2.Key} {G : List L2.Key → Prop} {R : V → PD → Prop}
theorem Kv.val (hf : ∀ x y, f x = f y → x = y) {r : List (κ × V)} {kvs : List (List L2.Key × PD)} (h : Kv f G R r kvs) (k : κ) :
    (valV r k).isSome = (valD kvs (f k)).isSome ∧ ∀ d, valD kvs (f k) = some d → ∃ v, valV r k = some v ∧ R v d := by
  unfold Kv at h
  induction h with
  | nil => exact ⟨rfl, fun d e => nomatch e⟩
  | @cons p q ps qs h t ih =>
    obtain ⟨h1, _, h2⟩ := h
    by_cases e : p.1 = k
    · have b : valD (q :: qs) (f k) = some q.2 := by simp [valD, List.find?_cons, ← h1, e]
      rw [valV_pos e, b]
      exact ⟨rfl, fun d e => by cases e; exact ⟨_, rfl, h2⟩⟩
    · have e' : ¬ q.1 = f k := fun z => e (hf _ _ (h1.trans z))
      have b : valD (q :: qs) (f k) = valD qs (f k) := by simp [valD, List.find?_cons, e']
      rw [valV_neg e, b]
      exact ih
theorem Kv.any (hf : ∀ x y, f x = f y → x = y) {r : List (κ × V)} {kvs : List (List L2.Key × PD)} (h : Kv f G R r kvs) (k : κ) : (r.any fun kv => decide (kv.1 = k)) = kvs.any fun kv => decide (kv.1 = f k) := by
  unfold Kv at h
  induction h with
  | nil => rfl
  | @cons p q ps qs h t ih =>
    rw [List.any_cons, List.any_cons, ih, ← h.1]
    congr 1
    by_cases e : p.1 = k
    · rw [decide_eq_true e, decide_eq_true (congrArg f e)]
    · rw [decide_eq_false e, decide_eq_false fun z => e (hf _ _ z)]
theorem Kv.put (hf : ∀ x y, f x = f y → x = y) {r : List (κ × V)} {kvs : List (List L2.Key × PD)} (h : Kv f G R r kvs) (k : κ) {v : V} {d : PD} (hg : G (f k)) (hv : R v d) : Kv f G R (putK r k v) (putD kvs (f k) d) := by
  unfold putK putD
  rw [h.any hf k]
  by_cases e : (kvs.any fun kv => decide (kv.1 = f k)) = true
  · rw [if_pos e, if_pos e]
    clear e
    unfold Kv at h ⊢
    induction h with
    | nil => exact .nil
    | @cons p q ps qs h t ih =>
      rw [List.map_cons, List.map_cons]
      refine .cons ?_ ih
      obtain ⟨h1, h2, h3⟩ := h
      by_cases e : p.1 = k
      · rw [if_pos e, if_pos (by rw [← h1, e])]; exact ⟨h1, h2, hv⟩
      · rw [if_neg e, if_neg fun z => e (hf _ _ (h1.trans z))]; exact ⟨h1, h2, h3⟩
  · rw [if_neg e, if_neg e]
    exact Paired.snoc h ⟨rfl, hg, hv⟩
end
theorem one_inj : ∀ x y : L2.Key, [x] = [y] → x = y := fun x y h => by cases h; rfl
/-! sorted(x), the keys tuples -/
section
open PySem.W PySem.Calls
variable {prog : Program} {w : World}
theorem kdl_raw {d : Addr} {es : Array DictEntry} {ep : Nat} (lo : (d == sysModules) = false) : KdlSrc prog w "dict" d d es.size (fun i v => ∃ hi : i < es.size, v = es[i].key) (fun h => h.DictRaw d es ep) where
  type := fun _ hm => hm.typeIs
  there := fun _ hm => ⟨let ⟨_, ho, _⟩ := hm; Heap.lt_size ho, let ⟨_, ho, _⟩ := hm; Heap.lt_size ho⟩
  keep := fun _ _ hm hk => hm.at fun o e => hk d (.inl rfl) o e
  notList := by decide
  notTuple := by decide
  hint := fun _ _ _ _ hm hq => kdl_hint_dict hm.typeIs hq
  iter := fun _ s hh hm => ⟨_, _, (fun _ _ hq => wpAny_pyIter_dict_raw lo hm hq), Walks.rawKeys hh _ d (Nat.ne_of_lt (let ⟨_, ho, _⟩ := hm; Heap.lt_size ho)) es ep, ⟨⟨_, Heap.get?_push_size _ rfl, rfl, rfl⟩, hm.at fun o e => Heap.get?_push_of_some _ e⟩⟩
/-- a tuple that is a key, as a datum -/
def keyT (k : List L2.Key) : PD := .tuple (k.map keyPD)
theorem keyPD_dp {K : PySem.W.Frag} {H : Hp} : ∀ ks : List L2.Key, DpAll K H (ks.map kV) (ks.map keyPD)
  | [] => .nil
  | .inl i :: ks => .cons (.int i) (keyPD_dp ks)
  | .inr s :: ks => .cons (.str s) (keyPD_dp ks)
def rSortDT : List V → Hp → VK → Prop := fun vs H Q => ∃ (a : Addr) (kvs : List (List L2.Key × V)), vs = [V.ref a] ∧ H a = some (.dT kvs) ∧ AllAlike (kvs.map fun kv => keyT kv.1) ∧ Sortable (kvs.map fun kv => keyT kv.1) ∧ (∀ kv ∈ kvs, (keyT kv.1).depth ≤ 60) ∧
  ∀ zs : List (V × PD), zs.map (·.2) = kvs.map (fun kv => keyT kv.1) → (∀ z ∈ zs, ∃ (b : Addr) (kk : List L2.Key), z = (.ref b, keyT kk) ∧ H b = some (.tup (kk.map kV))) → ∀ p, H p = none → Q (.ref p) (upd H p (.lst ((zs.mergeSort (dataLe false (·.2))).map (·.1))))
theorem kt_keys {H : Hp} {l : List (List L2.Key × V)} {m : List (List L2.Key × Addr × Value)} (q : KT H l m) : (m.map fun x => (V.ref x.2.1, keyT x.1)).map (·.2) = l.map fun kv => keyT kv.1 := by
  induction q with
  | nil => rfl
  | cons h t ih => rw [List.map_cons, List.map_cons, List.map_cons, ih]; exact congrArg (· :: _) (by show keyT _ = keyT _; rw [h.1])
theorem kv_keys {n : Nat} (h0 : n ≠ 0) {G : List L2.Key → Prop} {R : V → PD → Prop} {r : List (List L2.Key × V)} {kvs : List (List L2.Key × PD)} (h : Kv (fun x => x) G R r kvs) : kvs.map (fun kv => keyOut n kv.1) = r.map fun kv => keyT kv.1 := by
  unfold Kv at h
  induction h with
  | nil => rfl
  | cons h t ih =>
    rw [List.map_cons, List.map_cons, ih, ← h.1]
    exact congrArg (· :: _) (if_neg h0)
variable {X : Cx}
theorem cr_sortDT (hc : X.calm = true) (hu : X.A.units + 65 < cLine) : CallR X (.builtin "sorted") rSortDT := by
  intro pins s σ H vs us Q I r h
  obtain ⟨a, kvs, rfl, ha, hal, hk, hz, q⟩ := h
  rw [Vals.ref1 r]
  obtain ⟨z, hd, xs, rel, dd⟩ := dt_of I.hok ha
  obtain ⟨es, ep, hraw, hsz, hes⟩ := dd.raw
  have hxl : xs.length = kvs.length := (Paired.length rel).symm
  have hn : es.size ≤ sizeLine := by rw [hsz, hxl]; exact z
  generalize hzs : xs.map (fun x => (V.ref x.2.1, keyT x.1)) = zs
  have hz2 : zs.map (·.2) = kvs.map (fun kv => keyT kv.1) := by
    rw [← hzs]
    exact kt_keys rel
  have hzk : ∀ y ∈ zs, ∃ (b : Addr) (kk : List L2.Key), y = (.ref b, keyT kk) ∧ H b = some (.tup (kk.map kV)) := by
    have all : ∀ {l : List (List L2.Key × V)} {m : List (List L2.Key × Addr × Value)}, KT H l m → ∀ x ∈ m, H x.2.1 = some (.tup (x.1.map kV)) := by
      intro l m q
      induction q with
      | nil => intro x hx; exact nomatch hx
      | cons hq t ih =>
        intro x hx
        rcases List.mem_cons.mp hx with e | hx
        · subst e
          rw [← hq.1]; exact hq.2.1
        · exact ih x hx
    intro y hy
    rw [← hzs] at hy
    obtain ⟨x, hx, rfl⟩ := List.mem_map.mp hy
    exact ⟨x.2.1, x.1, rfl, all rel x hx⟩
  refine Calls.call_function_entry PyProof.Rows.kind_sorted PyProof.Rows.plain_sorted PyProof.Rows.entry_sorted (PyProof.Rows.args_sorted1 _) ?_
  unfold Builtin.«sorted»
  refine wpAny_bind (m := checkCount "sorted" 1 1 _) (wpAny_pure ?_)
  refine wpAny_bind (kdu_collect (A := X.A.in1) (kdl_raw (es := es) (ep := ep) hd) (I.ok.hd hc) hraw hn fun h' tk acc hkp hacc => ?_)
  have hal' : acc.toList.length = es.size := by rw [Array.length_toList]; exact hacc.1
  have rv : Vals (zs.map (·.1)) acc.toList := by
    have e : acc.toList = xs.map fun x => Value.ref x.2.1 := by
      refine List.ext_getElem? fun j => ?_
      by_cases hj : j < es.size
      · obtain ⟨hi, e1⟩ := hacc.2 j (acc[j]'(by rw [hacc.1]; exact hj)) (Array.getElem?_eq_getElem _)
        obtain ⟨y, e2, e3, _⟩ := hes j hj
        rw [Array.getElem?_toList, Array.getElem?_eq_getElem (by rw [hacc.1]; exact hj), e1, e3, List.getElem?_map, e2]
        rfl
      · rw [List.getElem?_eq_none (by omega), List.getElem?_eq_none (by rw [List.length_map]; omega)]
    rw [e, ← hzs, List.map_map]
    exact vals_maps (fun x : List L2.Key × Addr × Value => V.ref x.2.1) (fun x => Value.ref x.2.1) xs fun _ _ => rfl
  have I1 : Inv X pins σ H { s with heap := h', toks := tk } := I.kept hkp
  refine wpAny_bind (wpAny_newList ?_ (by rw [hal']; exact hn))
  have hoL : (h'.push (seqObj "list" acc.toList.toArray 0)).get? h'.objs.size = some (seqObj "list" acc.toList.toArray 0) := Heap.get?_push_size _ rfl
  show wpAny _ _ _ _ _ { s with heap := h'.push (seqObj "list" acc.toList.toArray 0), toks := tk }
  have old : ∀ b o, s.heap.get? b = some o → (sortingHeap (h'.push (seqObj "list" acc.toList.toArray 0)) h'.objs.size acc.toList).get? b = some o := fun b o e => sortingHeap_old (Nat.ne_of_lt (Heap.lt_size (hkp b o e))) (Heap.get?_push_of_some _ (hkp b o e))
  have eR : EachIs (fun u y => RelV y.1 u) acc.toList zs := eachIs_of rv fun y _ u h => h
  have er : EachIs (fun v b => ∃ as, Reads (sortingHeap (h'.push (seqObj "list" acc.toList.toArray 0)) h'.objs.size acc.toList) v b.2 as) acc.toList zs := eachIs_of rv fun y hy u hr => by
    obtain ⟨b, kk, rfl, hb⟩ := hzk y hy
    obtain ⟨as, hr'⟩ := Dp.reads I (keyT kk) (.ref b) u (.tup (.of hb) (keyPD_dp kk)) hr
    exact ⟨as, PyProof.Rows.Reads.keeps old hr'⟩
  have hzl : zs.length = es.size := by rw [← hzs, List.length_map]; exact hsz.symm
  refine wpAny_bind (wpAny_holding (wpAny_call_entry PyProof.Rows.slot_list_sort ⟨_, hoL, rfl⟩ PyProof.Rows.entry_list_sort
    (list_sort_vals (s := { s with heap := h'.push (seqObj "list" acc.toList.toArray 0), toks := tk }) hoL (SortsAt.data (s := { s with heap := sortingHeap (h'.push (seqObj "list" acc.toList.toArray 0)) h'.objs.size acc.toList, toks := tk }) (each_map (R := fun v d => ∃ as, Reads (sortingHeap (h'.push (seqObj "list" acc.toList.toArray 0)) h'.objs.size acc.toList) v d as) (fun y : V × PD => y.2) er) (by rw [hz2]; exact hal) (by rw [hz2]; exact hk) (fun d hm => ?_)) (by rw [hal']; exact hn) ⟨_, rfl, ?_⟩)
    (PyProof.Rows.args_list_sort _)))
  · rw [hz2] at hm
    obtain ⟨kv, hkv, rfl⟩ := List.mem_map.mp hm
    have := hz kv hkv
    show X.A.units + 1 + 1 + _ < cLine
    omega
  · have hout := sortVals_data (h' := sortingHeap (h'.push (seqObj "list" acc.toList.toArray 0)) h'.objs.size acc.toList) (R := fun u y => RelV y.1 u) (enc := fun y : V × PD => y.2) false eR er (by rw [hz2]; exact hal)
    obtain ⟨e', he'⟩ := PyProof.Rows.sortedHeap_at (vs := acc.toList) (out := (sortVals (dataKind (sortingHeap (h'.push (seqObj "list" acc.toList.toArray 0)) h'.objs.size acc.toList) (zs.map fun y => y.2)) false acc.toList acc.toList).toArray) hoL
    have hl2 : ((zs.mergeSort (dataLe false (·.2))).map (·.1)).length ≤ sizeLine := by
      rw [List.length_map, List.length_mergeSort, hzl]
      exact hn
    refine wpAny_pure ⟨_, rfl, .ref h'.objs.size, upd H h'.objs.size (.lst ((zs.mergeSort (dataLe false (·.2))).map (·.1))), I1.laid (t' := tk) (fun b u e => ?_) (Nat.le_refl _)
      (show ObjOk X.prog X.w _ _ _ (.lst ((zs.mergeSort (dataLe false (·.2))).map (·.1))) from ⟨hl2, _, e', vals_each hout, he'⟩), rfl, q zs hz2 hzk _ (I1.hok.fresh (Nat.le_refl _))⟩
    have hb : b < h'.objs.size := Heap.lt_size e
    rw [PyProof.Rows.sortedHeap_old (Nat.ne_of_lt hb) (by rw [size_push']; exact Nat.lt_succ_of_lt hb)]
    exact Heap.get?_push_of_some _ e
end
section
variable {T : Type} {k : Tk T} {g : Glob T} {tb : Tb} {lv : Nat} {X : Cx}
theorem keyP_v {F : Fz} {H : Hp} {Z : Fz} {v : V} {d : PD} {x : L2.Key} (h : Rb X.K Z k.tv F H v d) (e : keyP d = some x) : v = kV x := by
  cases d with
  | int i => cases e; exact h.int
  | str s => cases e; exact h.str
  | _ => cases e
theorem keysP_v {F : Fz} {H : Hp} : ∀ {ds : List PD} {vs : List V} {ks : List L2.Key}, RpA X.K k.tv F H vs ds → keysP ds = some ks → vs = ks.map kV ∧ ks.length = ds.length
  | _, _, _, .nil, e => by cases e; exact ⟨rfl, rfl⟩
  | d :: ds, _, ks, .cons h t, e => by
    rw [keysP] at e
    obtain ⟨x, e1, e⟩ := bind2 e
    obtain ⟨r, e2, e3⟩ := Option.map_eq_some_iff.mp e
    cases e3
    obtain ⟨h1, h2⟩ := keysP_v t e2
    rw [keyP_v (k := k) (X := X) (Z := fun _ => False) (.of h) e1, h1]
    exact ⟨rfl, by rw [List.length_cons, List.length_cons, h2]⟩
/-- what stands at a key -/
theorem dd_key {F : Fz} {H : Hp} {Z : Fz} {n : Nat} {a : Addr} {kvs : List (List L2.Key × PD)} {v : V} {d : PD} {kk : List L2.Key} (h : Dd X.K k.tv F H n a kvs) (hr : Rb X.K Z k.tv F H v d) (e : keyD n d = some kk) :
    (n = 0 ∧ ∃ (x : L2.Key) (r : List (L2.Key × V)), kk = [x] ∧ v = kV x ∧ H a = some (.dK r) ∧ Kv (fun x => [x]) (fun _ => True) (Rp X.K k.tv F H) r kvs) ∨
    (n ≠ 0 ∧ KB k.tv.kl n ∧ ∃ (b : Addr) (r : List (List L2.Key × V)), v = .ref b ∧ H b = some (.tup (kk.map kV)) ∧ kk.length = n ∧ H a = some (.dT r) ∧ Kv (fun x => x) (fun y => y.length = n) (Rp X.K k.tv F H) r kvs) := by
  unfold keyD at e
  rcases h with ⟨h0, r, h1, h2⟩ | ⟨h0, h3, r, h1, h2⟩
  · rw [if_pos h0] at e
    obtain ⟨x, e1, e2⟩ := Option.map_eq_some_iff.mp e
    cases e2
    exact .inl ⟨h0, x, r, rfl, keyP_v hr e1, h1, h2⟩
  · rw [if_neg h0] at e
    cases d with
    | tuple xs =>
      simp only at e
      split at e
      · rename_i hl
        cases hr.rpT with
        | tup h4 ra =>
          obtain ⟨h5, h6⟩ := keysP_v ra e
          rename_i b vs
          refine .inr ⟨h0, h3, b, r, rfl, ?_, h6.trans hl, h1, h2⟩
          rw [← h5]
          exact h4.key (by rw [ra.length, hl]; exact h3)
      · cases e
    | _ => cases e
theorem dd_get {F : Fz} {H : Hp} {Z : Fz} {n : Nat} {a : Addr} {kvs : List (List L2.Key × PD)} {v : V} {d : PD} {kk : List L2.Key} (h : Dd X.K k.tv F H n a kvs) (hr : Rb X.K Z k.tv F H v d) (e : keyD n d = some kk) :
    ∃ o, DGet H a v o ∧ o.isSome = (valD kvs kk).isSome ∧ ∀ d', valD kvs kk = some d' → ∃ v', o = some v' ∧ Rp X.K k.tv F H v' d' := by
  rcases dd_key h hr e with ⟨_, x, r, rfl, rfl, h1, h2⟩ | ⟨_, _, b, r, rfl, h3, _, h1, h2⟩
  · obtain ⟨q1, q2⟩ := h2.val one_inj x
    exact ⟨_, .k h1, q1, q2⟩
  · obtain ⟨q1, q2⟩ := h2.val (fun _ _ z => z) kk
    exact ⟨_, .t h1 h3, q1, q2⟩
theorem dd_put {F : Fz} {H : Hp} {Z : Fz} {n : Nat} {a : Addr} {kvs : List (List L2.Key × PD)} {v w : V} {d d' : PD} {kk : List L2.Key} (h : Dd X.K k.tv F H n a kvs) (hr : Rb X.K Z k.tv F H v d) (e : keyD n d = some kk) (hl : kvs.length < sizeLine) (hw : Rp X.K k.tv F H w d') :
    ∃ o0 ob, H a = some o0 ∧ ¬ imm o0 ∧ DPut H a v w (upd H a ob) ∧ (Lw F H F (upd H a ob) → Dd X.K k.tv F (upd H a ob) n a (putD kvs kk d')) := by
  rcases dd_key h hr e with ⟨h0, x, r, rfl, rfl, h1, h2⟩ | ⟨h0, hk, b, r, rfl, h3, h4, h1, h2⟩
  · refine ⟨_, _, h1, (fun z => z), .k h1 (by rw [show r.length = kvs.length from Paired.length h2]; exact hl), fun lw => .inl ⟨h0, _, upd_same, ?_⟩⟩
    exact Paired.mapP (h2.put one_inj x trivial hw) fun _ _ z => ⟨z.1, z.2.1, z.2.2.lw lw⟩
  · refine ⟨_, _, h1, (fun z => z), .t h1 h3 (by rw [show r.length = kvs.length from Paired.length h2]; exact hl), fun lw => .inr ⟨h0, hk, _, upd_same, ?_⟩⟩
    exact Paired.mapP (h2.put (fun _ _ z => z) kk h4 hw) fun _ _ z => ⟨z.1, z.2.1, z.2.2.lw lw⟩
theorem getD_eq {ρ : Ev} {i n : Nat} {kvs : List (List L2.Key × PD)} (h : getD ρ i = some (n, kvs)) : ρ[i]? = some (some (.od n kvs)) := by
  unfold getD at h
  split at h
  · cases h; assumption
  · cases h
theorem od_at {H0 : Hp} {ρ : Ev} {σ : Sg} {F : Fz} {H : Hp} {i n : Nat} {kvs : List (List L2.Key × PD)} (o : Okk k X.K H0 ρ σ F H) (h : getD ρ i = some (n, kvs)) : ∃ a, ρ[i]? = some (some (.od n kvs)) ∧ σ[i]? = some (some (.ref a)) ∧ Dd X.K k.tv F H n a kvs := by
  have e1 := getD_eq h
  obtain ⟨v, e2, a, rfl, hd⟩ := o.sl i _ e1
  exact ⟨a, e1, e2, hd⟩
theorem rx_din {i : Nat} {t : TE} {m : E} (b : RB k g X t m) : RX k g X (tDIn t (tVar i)) (.din false i m) ∧ RX k g X (tDNotIn t (tVar i)) (.din true i m) := by
  refine ⟨fun H0 ρ τ σ F H z τ' Q ok gd e q => ?_, fun H0 ρ τ σ F H z τ' Q ok gd e q => ?_⟩
  all_goals
    rw [ev] at e
    obtain ⟨⟨d, τ1⟩, e1, e⟩ := bind2 e
    obtain ⟨⟨n, kvs⟩, e2, e⟩ := bind2 e
    obtain ⟨kk, e3, e4⟩ := Option.map_eq_some_iff.mp e
    cases e4
    refine b H0 ρ τ σ F H d τ1 _ ok gd e1 fun v F1 H1 l1 g1 r1 => ?_
    obtain ⟨a, er, es, hd⟩ := od_at (ok.le gd l1) e2
    obtain ⟨o, h1, h2, _⟩ := dd_get hd r1 e3
    refine ⟨_, es, a, o, rfl, h1, ?_⟩
    rw [h2]
  · rw [show ((valD kvs kk).isSome != false) = (valD kvs kk).isSome by cases (valD kvs kk).isSome <;> rfl] at q
    exact q _ F1 H1 l1 g1 (.bl _)
  · rw [show ((valD kvs kk).isSome != true) = !(valD kvs kk).isSome by cases (valD kvs kk).isSome <;> rfl] at q
    exact q _ F1 H1 l1 g1 (.bl _)
theorem ev_din {n : Bool} {i : Nat} {m : E} : ∀ (ρ : Ev) (τ : T) (d : PD) (τ' : T), ev g (.din n i m) ρ τ = some (d, τ') → ∃ b, d = .bool b := fun ρ τ d τ' e => by
  rw [ev] at e
  obtain ⟨p, e1, e⟩ := bind2 e
  obtain ⟨q, e2, e⟩ := bind2 e
  obtain ⟨kk, e3, e4⟩ := Option.map_eq_some_iff.mp e
  cases e4
  exact ⟨_, rfl⟩
def dinOp : Bool → CmpOp
  | false => .In
  | true => .NotIn
theorem se_din {n : Bool} {i : Nat} {x : Str} {e : Expr} {p pos : Pos} {m : E} (hu : X.A.units + 65 < cLine) (pv : PE X (.Name x p) (tVar i)) (h : SE k g X e m) : SE k g X (.Compare e [dinOp n] [.Name x p] pos) (.din n i m) := by
  obtain ⟨t, pe, _, b, _⟩ := h.ex
  cases n with
  | false => exact .ofX (pe_cmp (pc_din (by omega) pe pv) rfl) (rx_din b).1 rfl
  | true => exact .ofX (pe_cmp (pc_dnotin (by omega) pe pv) rfl) (rx_din b).2 rfl
theorem st_din {n : Bool} {i : Nat} {x : Str} {e : Expr} {p pos : Pos} {m : E} (hu : X.A.units + 65 < cLine) (pv : PE X (.Name x p) (tVar i)) (h : SE k g X e m) : ST k g X (.Compare e [dinOp n] [.Name x p] pos) (.din n i m) := by
  obtain ⟨t, pe, _, b, _⟩ := h.ex
  cases n with
  | false => exact st_val (pt_cmp (pc_din (by omega) pe pv) rfl) (rx_din b).1 ev_din
  | true => exact st_val (pt_cmp (pc_dnotin (by omega) pe pv) rfl) (rx_din b).2 ev_din
theorem se_dgt {i : Nat} {x : Str} {e : Expr} {p pos : Pos} {m : E} (hu : X.A.units + 65 < cLine) (pv : PE X (.Name x p) (tVar i)) (h : SE k g X e m) (hs : NoSl e) : SE k g X (.Subscript (.Name x p) e pos) (.dgt i m) := by
  obtain ⟨t, pe, _, b, _⟩ := h.ex
  refine .ofX (pe_dget (by omega) pv pe hs) (fun H0 ρ τ σ F H z τ' Q ok gd e q => ?_) rfl
  rw [ev] at e
  obtain ⟨⟨d, τ1⟩, e1, e⟩ := bind2 e
  obtain ⟨⟨n, kvs⟩, e2, e⟩ := bind2 e
  obtain ⟨kk, e3, e⟩ := bind2 e
  obtain ⟨d', e4, e5⟩ := Option.map_eq_some_iff.mp e
  cases e5
  obtain ⟨a0, er0, es0, hd0⟩ := od_at ok e2
  refine ⟨_, es0, ?_⟩
  refine b H0 ρ τ σ F H d τ1 _ ok gd e1 fun v F1 H1 l1 g1 r1 => ?_
  obtain ⟨a, er, es, hd⟩ := od_at (ok.le gd l1) e2
  rw [es0] at es
  cases es
  obtain ⟨o, h1, h2, h3⟩ := dd_get hd r1 e3
  obtain ⟨v', rfl, rv⟩ := h3 _ e4
  exact ⟨a0, v', rfl, h1, q v' F1 H1 l1 g1 rv⟩
theorem cr_dlen : CallR X (.builtin "len") (fun xs H Q => ∃ a, ∃ kvs : List (L2.Key × V), xs = [.ref a] ∧ H a = some (.dK kvs) ∧ Q (.int kvs.length) H) := by
  intro pins s σ H xs vs Q I rx h
  obtain ⟨a, kvs, rfl, e, q⟩ := h
  obtain ⟨u, rfl, ru⟩ := vals1 rx
  cases ru
  exact d_len I (.inl e) fun t s' I' => ⟨.int kvs.length, H, I', ⟨t, rfl⟩, q⟩
theorem se_dln {i : Nat} {x y : Str} {p p2 pos : Pos} (G : GOk k g tb lv X) (hx : x = "len") (hg : Gl X x) (hb : x ∈ tb.bl) (pv : PE X (.Name y p2) (tVar i)) : SE k g X (.Call (.Name x p) [.Name y p2] [] pos) (.dln i) := by
  subst hx
  refine .ofX (pe_callB cr_dlen hg (G.blt _ hb) (by decide +kernel) (pa_cons pv pa_nil) (by decide) (by decide) (star_cons rfl) (star_any rfl)) (fun H0 ρ τ σ F H d τ' Q ok gd e q => ?_) rfl
  rw [ev] at e
  obtain ⟨⟨n, kvs⟩, e2, e⟩ := bind2 e
  simp only at e
  split at e
  · rename_i hc
    cases e
    obtain ⟨a, er, es, hd⟩ := od_at ok e2
    refine ⟨_, es, ?_⟩
    rcases hd with ⟨_, r, h1, h2⟩ | ⟨h0, _⟩
    · refine ⟨a, r, rfl, h1, ?_⟩
      rw [show r.length = kvs.length from Paired.length h2]
      exact q _ F H (.refl _ _ _) gd (.int _)
    · exact absurd hc h0
  · cases e
theorem keyOut_T {n : Nat} (h0 : n ≠ 0) (kk : List L2.Key) : keyOut n kk = keyT kk := if_neg h0
theorem se_dks {i : Nat} {x y : Str} {p p2 pos : Pos} (G : GOk k g tb lv X) (hx : x = "sorted") (hg : Gl X x) (hb : x ∈ tb.bl) (pv : PE X (.Name y p2) (tVar i)) : SE k g X (.Call (.Name x p) [.Name y p2] [] pos) (.dks i) := by
  subst hx
  have hu := G.hu
  refine .ofF (pe_callB (cr_sortDT G.calm hu) hg (G.blt _ hb) (by decide +kernel) (pa_cons pv pa_nil) (by decide) (by decide) (star_cons rfl) (star_any rfl)) fun H0 ρ τ σ F H d τ' Q ok gd e q => ?_
  rw [ev] at e
  obtain ⟨⟨n, kvs⟩, e2, e⟩ := bind2 e
  obtain ⟨hc, e3⟩ := ite_some e
  cases e3
  rw [Bool.and_eq_true, decide_eq_true_eq] at hc
  obtain ⟨h0, hs⟩ := hc
  obtain ⟨a, er, es, hd⟩ := od_at ok e2
  refine ⟨_, es, ?_⟩
  rcases hd with ⟨h, _⟩ | ⟨_, hkl, r, h1, h2⟩
  · exact absurd h h0
  have ek := kv_keys h0 h2
  simp only at hs q
  rw [ek] at hs q
  obtain ⟨s1, s2, s3⟩ := sortable_ok hs
  refine ⟨a, r, rfl, h1, s1, s2, fun kv hm => (s3 _ (List.mem_map_of_mem (f := fun kv : List L2.Key × V => keyT kv.1) hm)).2, fun zs e1 hz p hp => ?_⟩
  refine q _ F _ (le_new (.refl _ _ _) hp) (gd_new gd hp) (frv_new (.refl _ _ _) gd hp ?_)
  rw [← e1] at s1 ⊢
  rw [← sortD_eq s1]
  refine rpa_of fun z hm => ?_
  obtain ⟨b, kk, rfl, hb'⟩ := hz z ((List.mergeSort_perm _ _).mem_iff.mp hm)
  have : ∀ kk : List L2.Key, RpA X.K k.tv F H (kk.map kV) (kk.map keyPD) := fun kk => by
    induction kk with
    | nil => exact .nil
    | cons c kk ih =>
      cases c with
      | inl i => exact .cons (.int i) ih
      | inr s => exact .cons (.str s) ih
  exact .tup (.mk0 hb') (this kk)

/-! statements -/
theorem dd_new {F : Fz} {H : Hp} {a : Addr} {n : Nat} (h : n = 0 ∧ H a = some (.dK []) ∨ n ≠ 0 ∧ KB k.tv.kl n ∧ H a = some (.dT [])) : Dd X.K k.tv F H n a [] := by
  rcases h with ⟨h0, h⟩ | ⟨h0, h1, h⟩
  · exact .inl ⟨h0, [], h, .nil⟩
  · exact .inr ⟨h0, h1, [], h, .nil⟩
theorem ss_dnew {i n : Nat} {x : Str} {p pos' pos : Pos} (G : GOk k g tb lv X) (hn : n = 0 ∨ KB tb.kl n) (hi : X.N[i]? = some x) (hx : Loc X.env.scope x) (hf : X.fn x = true ∨ X.env.scope.names.lookup x = some .local) : SS k g X (.Assign [.Name x pos'] (.Dict [] [] p) pos) (.dnew i n) := by
  by_cases h0 : n = 0
  · refine ⟨_, ps_set G.nd hi hx pe_dnewK rfl hf, fun H0 F0 ρ τ σ F H o D ok l0 gd e q => ?_⟩
    simp only [ex] at e
    split at e
    · rename_i hl
      cases e
      intro a ha
      have l1 := le_new (k := k) (F := F) (.refl _ _ _) ha (o := .dK [])
      exact q _ F _ ((ok.le gd l1).putW ⟨a, rfl, dd_new (.inl ⟨h0, upd_same⟩)⟩ (noF gd ha) (gd.newZ ha) (none_of_le l0 ha) hl fun j t hj ej ho z => ok.noN ha j t ej ho z) (l0.trans l1) (l1.lw gd) (gd_new gd ha)
    · cases e
  · refine ⟨_, ps_set G.nd hi hx pe_dnewT rfl hf, fun H0 F0 ρ τ σ F H o D ok l0 gd e q => ?_⟩
    simp only [ex] at e
    split at e
    · rename_i hl
      cases e
      intro a ha
      have l1 := le_new (k := k) (F := F) (.refl _ _ _) ha (o := .dT [])
      exact q _ F _ ((ok.le gd l1).putW ⟨a, rfl, dd_new (.inr ⟨h0, (G.kl ▸ hn.resolve_left h0), upd_same⟩)⟩ (noF gd ha) (gd.newZ ha) (none_of_le l0 ha) hl fun j t hj ej ho z => ok.noN ha j t ej ho z) (l0.trans l1) (l1.lw gd) (gd_new gd ha)
    · cases e
theorem dis_ok {F : Fz} {H : Hp} : ∀ {ks : List Str} {vs : List V} {ds : List PD} {acc : List (L2.Key × V)} {o : List (List L2.Key × PD)}, RpA X.K k.tv F H vs ds → Kv (fun x => [x]) (fun _ => True) (Rp X.K k.tv F H) acc o →
    Kv (fun x => [x]) (fun _ => True) (Rp X.K k.tv F H) (mergeK acc ((ks.zip vs).map fun p => ((Sum.inr p.1 : L2.Key), p.2))) (disK ks ds o)
  | [], _, ds, acc, o, _, h => by rw [disK]; exact h; intros; contradiction
  | s :: ks, _, [], acc, o, .nil, h => by rw [disK]; exact h; intros; contradiction
  | s :: ks, _, d :: ds, acc, o, .cons (v := v) hv ht, h => by
    rw [disK]
    exact dis_ok (acc := putK acc (Sum.inr s) v) ht (h.put one_inj (Sum.inr s) trivial hv)
theorem ss_ddis {i : Nat} {x : Str} {keys : List (Option Expr)} {values : List Expr} {p pos' pos : Pos} {ks : List Str} {ms : Es} (G : GOk k g tb lv X) (hi : X.N[i]? = some x) (hx : Loc X.env.scope x) (hf : X.fn x = true ∨ X.env.scope.names.lookup x = some .local)
    (h : SPr k g X p keys values ks ms) (hall : keys.all (·.isSome) = true) (hl : keys.length = values.length) (h0 : keys ≠ []) (h15 : keys.length ≤ 15)
    (hk : ks.length ≤ 15) (hlen : ∀ ρ τ ds τ', evs g ms ρ τ = some (ds, τ') → ks.length = ds.length) : SS k g X (.Assign [.Name x pos'] (.Dict keys values p) pos) (.ddis i ks ms) := by
  obtain ⟨trs, pp, r⟩ := h.ex
  refine ⟨_, ps_set G.nd hi hx (pe_disp pp hall hl h0 h15) rfl hf, fun H0 F0 ρ τ σ F H o D ok l0 gd e q => ?_⟩
  simp only [ex] at e
  obtain ⟨⟨ds, τ1⟩, e1, e⟩ := bind2 e
  split at e
  · rename_i hlt
    cases e
    intro a ha
    have gz := gd.newZ ha
    refine r H0 ρ τ σ F (upd H a (.dK [])) ds τ1 _ (ok.le gd (le_new (.refl _ _ _) ha)) (gd_new gd ha) e1 fun vs F1 H1 l1 g1 r1 => ?_
    have hE : H1 a = some (.dK []) := l1.keep a _ upd_same gz
    have nf : ¬ F1 a := fun z => (l1.new a z).elim (noF gd ha) fun z => by rw [upd_same] at z; cases z
    have hvl : vs.length = ks.length := by rw [r1.length]; exact (hlen _ _ _ _ e1).symm
    refine ⟨hE, (ks.zip vs).map fun p => (Sum.inr p.1, p.2), kvs_eq ks vs, by rw [List.length_map, List.length_zip]; omega, ?_⟩
    have hD := dis_ok (k := k) (X := X) (ks := ks) (acc := []) (o := []) r1 .nil
    generalize mergeK [] ((ks.zip vs).map fun p => ((Sum.inr p.1 : Key), p.2)) = M at hD ⊢
    have lA := le_upd (o' := .dK M) l1 ha
    have gA := gd_upd (o := .dK M) g1 gz nf
    have lw := lw_upd (F := F1) (H := H1) (p := a) (o := .dK M) nf (fun u hu hi => by rw [hE] at hu; cases hu; exact hi)
    have hS : SlOk k X.K F1 (upd H1 a (.dK M)) (.ref a) (.od 0 (disK ks ds [])) := ⟨a, rfl, .inl ⟨rfl, M, upd_same, Paired.mapP hD fun _ _ z => ⟨z.1, z.2.1, z.2.2.lw lw⟩⟩⟩
    exact q _ F1 _ ((ok.le gd lA).putW hS nf gz (none_of_le l0 ha) hlt fun j t hj ej ho z => ok.noN ha j t ej ho z) (l0.trans lA) (lA.lw gd) gA
  · cases e
theorem ss_dst {i : Nat} {x : Str} {ke e : Expr} {mk m : E} {p tp pos : Pos} (hu : X.A.units + 65 < cLine) (pv : PE X (.Name x p) (tVar i)) (hk : SE k g X ke mk) (h : SE k g X e m) (hp : m.isPk = false) (hc : notComp e = true) :
    SS k g X (.Assign [.Subscript (.Name x p) ke tp] e pos) (.dst i mk m) := by
  obtain ⟨t, pe, rx, _, _⟩ := h.ex
  obtain ⟨tk, pk, _, bk, _⟩ := hk.ex
  refine ⟨_, ps_dput (by omega) pv pk pe (swaps_no hc _ _ _), fun H0 F0 ρ τ σ F H o D ok l0 gd e q => ?_⟩
  simp only [ex] at e
  obtain ⟨⟨d, τ1⟩, e1, e⟩ := bind2 e
  obtain ⟨⟨dk, τ2⟩, e2, e⟩ := bind2 e
  obtain ⟨⟨n, kvs⟩, e3, e⟩ := bind2 e
  obtain ⟨kk, e4, e⟩ := bind2 e
  simp only at e
  split at e
  · rename_i hl
    cases e
    refine rx hp H0 ρ τ σ F H d τ1 _ ok gd e1 fun v F1 H1 l1 g1 r1 => ?_
    have ok1 := ok.le gd l1
    obtain ⟨a, er, es, _⟩ := od_at ok1 e3
    refine ⟨_, es, ?_⟩
    refine bk H0 ρ τ1 σ F1 H1 dk τ2 _ ok1 g1 e2 fun w F2 H2 l2 g2 r2 => ?_
    have ok2 := ok1.le g1 l2
    obtain ⟨a', er', es', hd⟩ := od_at ok2 e3
    rw [es] at es'
    cases es'
    have l12 := l1.trans l2
    obtain ⟨o0, ob, b1, b2, b3, b4⟩ := dd_put hd r2 e4 (of_decide_eq_true hl) (r1.lw (l2.lw g1))
    obtain ⟨q1, q2, q3, q4⟩ := ok2.writeS (s' := .od n (putD kvs kk d)) g2 er' rfl rfl es b1 b2 fun lw => ⟨a, rfl, b4 lw⟩
    exact ⟨a, _, rfl, b3, q σ F2 _ q1 (q4 F0 (l0.trans l12)) ((l12.lw gd).trans q2) q3⟩
  · cases e
/-- a statement that is not reached -/
theorem ss_die {st : Stmt} : SS k g X st .die := ⟨fun _ _ _ => False, ⟨fun _ _ _ _ _ _ h => h.elim⟩, fun H0 F0 ρ τ σ F H o D ok l0 gd e q => by
  simp only [ex] at e
  cases e⟩
end
end Fh
namespace Fh
open PySem PySem.Spec L2 PyProof.Rows

/-! ### list(range(n)), tuple(range(n)) -/
section
variable {T : Type} {k : Tk T} {g : Glob T} {tb : Tb} {lv : Nat} {X : Cx}
theorem rg_rpa {F : Fz} {H : Hp} : ∀ (n : Nat) (lo : Int), RpA X.K k.tv F H ((List.range n).map fun i => V.int (lo + (i : Nat))) (rangeD lo n)
  | 0, lo => .nil
  | n + 1, lo => by
    rw [List.range_succ_eq_map, List.map_cons, List.map_map, rangeD]
    refine .cons ?_ ?_
    · have := Rp.int (K := X.K) (tv := k.tv) (F := F) (H := H) lo
      simpa using this
    · have h := rg_rpa (F := F) (H := H) n (lo + 1)
      have e : ((fun i : Nat => V.int (lo + (i : Nat))) ∘ Nat.succ) = fun i : Nat => V.int (lo + 1 + (i : Nat)) := by
        funext i
        show V.int _ = V.int _
        congr 1
        omega
      rw [e]
      exact h
theorem rgV_is (j : Int) : rgV 0 j = (List.range j.toNat).map fun i => V.int ((0 : Int) + (i : Nat)) := by
  unfold rgV
  rw [Int.sub_zero]
theorem rgOk_of {j : Int} (h1 : smallR j = true) (h2 : okLen j.toNat = true) : RgOk 0 j := by
  unfold smallR at h1
  rw [Bool.and_eq_true, decide_eq_true_eq, decide_eq_true_eq] at h1
  have h2 := okLen_le h2
  rw [sizeLine_eq] at h2
  refine ⟨by decide, by decide, h1.1, h1.2, ?_⟩
  rw [Int.sub_zero]
  exact h2
theorem se_lrL {x y : Str} {p p2 q pos : Pos} {e : Expr} {m : E} (G : GOk k g tb lv X) (hx : x = "list") (hy : y = "range") (hg : Gl X x) (hg2 : Gl X y) (hb : x ∈ tb.bl) (hb2 : y ∈ tb.bl) (hn : nst e = true) (h : SE k g X e m) :
    SE k g X (.Call (.Name x p) [.Call (.Name y p2) [e] [] q] [] pos) (.lr false m) := by
  subst hx; subst hy
  obtain ⟨t, pe, _, b, _⟩ := h.ex
  refine .ofF (pe_listRg G.calm hg (G.blt _ hb) (prg_1 hg2 (G.blt _ hb2) pe (star_cons hn))) fun H0 ρ τ σ F H d τ' Q ok gd e q => ?_
  rw [ev] at e
  obtain ⟨⟨z, τ1⟩, e1, e⟩ := bind2 e
  refine b H0 ρ τ σ F H z τ1 _ ok gd e1 fun v F1 H1 l1 g1 r1 => ?_
  cases z with
  | int j =>
    simp only at e
    split at e
    · rename_i hc
      cases e
      rw [Bool.and_eq_true] at hc
      cases r1.int
      refine ⟨j, rfl, rgOk_of hc.1 hc.2, fun a ha => q _ F1 _ (le_new l1 ha) (gd_new g1 ha) (frv_new l1 g1 ha ?_)⟩
      rw [rgV_is]
      exact rg_rpa _ 0
    · cases e
  | _ => cases e
theorem se_lrT {x y : Str} {p p2 q pos : Pos} {e : Expr} {m : E} (G : GOk k g tb lv X) (hx : x = "tuple") (hy : y = "range") (hg : Gl X x) (hg2 : Gl X y) (hb : x ∈ tb.bl) (hb2 : y ∈ tb.bl) (hn : nst e = true) (h : SE k g X e m) :
    SE k g X (.Call (.Name x p) [.Call (.Name y p2) [e] [] q] [] pos) (.lr true m) := by
  subst hx; subst hy
  obtain ⟨t, pe, _, b, _⟩ := h.ex
  refine .ofX (pe_tupRg G.calm hg (G.blt _ hb) (prg_1 hg2 (G.blt _ hb2) pe (star_cons hn))) (fun H0 ρ τ σ F H d τ' Q ok gd e q => ?_) rfl
  rw [ev] at e
  obtain ⟨⟨z, τ1⟩, e1, e⟩ := bind2 e
  refine b H0 ρ τ σ F H z τ1 _ ok gd e1 fun v F1 H1 l1 g1 r1 => ?_
  cases z with
  | int j =>
    simp only at e
    split at e
    · rename_i hc
      cases e
      rw [Bool.and_eq_true] at hc
      cases r1.int
      refine ⟨j, rfl, rgOk_of hc.1 hc.2, fun a ha => q _ F1 _ (le_new l1 ha) (gd_new g1 ha) (rp_tup g1 ha ?_)⟩
      rw [rgV_is]
      exact rg_rpa _ 0
    · cases e
  | _ => cases e
end
/-! ### dict comprehensions: keys ints and texts, or tuples -/
/-- a new dict's kind -/
def emp (n : Nat) : HO := if n = 0 then .dK [] else .dT []
theorem emp_ok {P : Program} {w : World} {H : Hp} (n : Nat) (h : Heap) (hb : sysModules < h.objs.size) : ObjOk P w H (h.push { cls := .type "dict", data := .dict #[] }) h.objs.size (emp n) := by
  unfold emp
  split
  · exact dk_empty h hb
  · exact dt_empty h hb
section
variable {X : Cx} {pins : List (Addr × Obj)} {σ : L2.St} {H : Hp} {s : Shared}
/-- a pair stored by a comprehension -/
theorem put_pair {H' : Hp} {E : Value → Shared → Prop} {D : Addr} {y v : V} {u r : Value} {Q : Unit → Shared → Prop} (hu : X.A.units < cLine) (I : Inv X pins σ H s) (g : DPut H D y v H') (ry : RelV y u) (rv : RelV v r) (h : ∀ s', Inv X pins σ H' s' → Q () s') :
    wpAny (model X.prog X.w) X.A (dictSet D u r) Q E s := by
  rcases g with ⟨kvs, kk, e, rfl, l, rfl⟩ | ⟨kvs, kk, b, e, rfl, eb, l, rfl⟩
  · obtain ⟨z, hd, vs, rel, dd⟩ := dk_of I.hok e
    have bd : vs.length ≤ sizeLine := by have := rel.length; omega
    refine wpAny_dictSet_pairs (hsz := bd) (kV_is ry) dd fun h' dd' hs => h _ (d_write I (by rw [e]; exact True.intro) hs ?_ (dk_new ?_ hd (rel.put kk rv) dd'))
    · obtain ⟨q, _, _, hq, _⟩ := dd'
      exact ⟨q, hq⟩
    · have := length_putK kvs kk v
      omega
  · cases (show u = Value.ref b from ry)
    obtain ⟨z, hd, xs, rel, dd⟩ := dt_of I.hok e
    have bd : xs.length ≤ sizeLine := by have := Paired.length rel; omega
    refine wpAny_dictSet_heap (hsz := bd) hu (key_of I.hok eb) dd fun h' dd' hs => h _ ?_
    obtain ⟨q, es, ep, hq, h2, h3, h4, _, h5⟩ := dd'
    have hl : (putK kvs kk v).length ≤ sizeLine := by have := length_putK kvs kk v; omega
    refine d_write I (by rw [e]; exact True.intro) hs ⟨q, hq⟩ ⟨hl, hd, _, (rel.put kk eb rv).keeps fun c ys ec => ?_, q, es, ep, hq, h2, h3, h4, h5⟩
    have : c ≠ D := ne_of ec e (fun z => nomatch z)
    rw [upd_ne this]
    exact ec
/-- {k: v for target in iter if ..}: D the new dict -/
def tDg (o0 : HO) (wi : TI) (g : TG) (tt : TT) (tk tv : TE) (vs : List Nat) : TE := fun σ H Q => wi σ H fun J H1 => ∀ D, H1 D = none → ∃ W : Nat → Nat → Hp → Prop, (∃ m, W 0 m (upd H1 D o0)) ∧ ∀ i m H, W i m H →
  (J.stop i H ∧ Q (.ref D) H) ∨ (J.go i H ∧ ∃ Nx : Hp → Prop, (∀ H', Nx H' → ∃ m', m' < m ∧ W (i + 1) m' H') ∧ ∀ x H', J.yld i H x H' → g x (wipe σ vs) H' fun σ2 H2 => wipe σ2 vs = wipe σ vs ∧ tt σ2 H2 fun b H3 =>
    if b = true then tk σ2 H3 fun y H4 => tv σ2 H4 fun z H5 => ∃ H6, DPut H5 D y z H6 ∧ Nx H6 else Nx H3)
section
variable {kx vx tg iter : Expr} {ifs : List Expr} {scope : Scope} {own : List (Str × Nat)} {wi : TI} {g : TG} {tt : TT} {tk tv : TE}
/-- all contexts of the block -/
abbrev Blk (X : Cx) (scope : Scope) (P : Cx → Prop) : Prop := ∀ (s : Shared) (H : Hp) (C : Addr) (cl : List (Str × Addr)) (fp : List Addr), P (X.blk s H scope (compEnvC scope cl C X.env) fp)
theorem comp_run {n : Nat} {Q : VK} {pos pos' : Pos} {use : Option (Value → Sem Unit)} {Qf : Value → Shared → Prop} (hu : X.A.units < cLine) (hc : X.calm = true) (hN : X.N.Nodup) (I : Inv X pins σ H s) (hi : PI X tg iter wi) (ok : BlkOk X.N X.env.scope scope own)
    (hg : Blk X scope fun Y => PG Y tg g) (ht : Blk X scope fun Y => PTs Y ifs tt) (hk : Blk X scope fun Y => PE Y kx tk) (he : Blk X scope fun Y => PE Y vx tv) (hs : ∀ x, foldedSetIterable iter X.env x = pure x)
    (h : tDg (emp n) wi g tt tk tv (own.map (·.2)) σ H Q)
    (hend : ∀ D C s' m H', Inv X pins σ H' s' → Q (.ref D) H' → s'.heap.Ns C m → FpOk X pins H' C → compPost (model X.prog X.w) X.A X.xe use Qf (.ref D) C (.ok .next) s') :
    wpAny (model X.prog X.w) X.A (comprehension (.DictComp kx vx [⟨tg, iter, ifs, 0⟩] scope pos) scope X.env pos' newDict false (eval iter X.env) use) Qf X.xe s := by
  have hfree : ∀ y ∈ scope.names, y.2 = .free → ∃ c, X.env.cells.lookup y.1 = some c := fun y hy e =>
    (ok.free y hy e).elim (fun z => I.ok.has _ (.inl z)) fun z => I.ok.has _ (.inr z)
  refine wpAny_comprehension_free (use := use) rfl hs (closure_ok hfree) ok.kind (fun y hy e => by rw [ok.uniq y hy, e]) (thn (hi.run pins s σ H _ I h) fun xv s1 hx => thn hx fun itv s2 ⟨it, fp, tn, J, H2, e, I2, T, st2, f2, q⟩ => ?_)
  subst e
  refine wpAny_newObj_type (newEnv_comp ?_)
  generalize hD : s2.heap.objs.size = D
  obtain ⟨W, ⟨m0, w0⟩, turn⟩ := q D (I2.hok.fresh (Nat.le_of_eq hD))
  generalize hs3 : ({ s2 with heap := s2.heap.push { cls := .type "dict", data := .dict #[] } } : Shared) = s3
  have I3 : Inv X pins σ (upd H2 D (emp n)) s3 := by
    rw [← hs3]
    refine I2.laid (t' := s2.toks) (fun b o e => Heap.get?_push_of_some _ e) (Nat.le_of_eq hD) ?_
    rw [← hD]
    exact emp_ok n s2.heap I2.big
  have h3 : s3.heap = s2.heap.push { cls := .type "dict", data := .dict #[] } := by rw [← hs3]
  have f3 : ∀ b ∈ fp, FpOk X pins (upd H2 D (emp n)) b ∧ b < s3.heap.objs.size := fun b hb => by
    obtain ⟨ob, eb, _⟩ := T.obj _ _ st2 b hb
    have hlt := Heap.lt_size eb
    have hne : b ≠ D := by rw [← hD]; exact Nat.ne_of_lt hlt
    refine ⟨⟨(upd_ne hne).trans (f2 b hb).1, (f2 b hb).2⟩, ?_⟩
    rw [h3, Heap.size_push]
    exact Nat.lt_succ_of_lt hlt
  have st3 : tn 0 s3.heap := T.keep _ _ _ st2 fun b _ o e => h3 ▸ Heap.get?_push_of_some _ e
  have I4 := block_start I3 ok hN f3
  generalize hH3 : upd H2 D (emp n) = H3 at I3 I4 w0 f3
  obtain ⟨cl, hcl⟩ : ∃ cl, cellsFrom (s3.heap.objs.size + 1) scope.names (cloFrom X.env.cells scope.names []) = cl := ⟨_, rfl⟩
  rw [hcl] at I4
  have pg := hg s3 H3 s3.heap.objs.size cl fp
  have pt := ht s3 H3 s3.heap.objs.size cl fp
  have pk := hk s3 H3 s3.heap.objs.size cl fp
  have pv := he s3 H3 s3.heap.objs.size cl fp
  show codeAny _ _ (.compStart (.DictComp kx vx [⟨tg, iter, ifs, 0⟩] scope pos) 0 (.ref it) (.ref D) (compEnvC scope (cellsFrom (s3.heap.objs.size + 1) scope.names (cloFrom X.env.cells scope.names [])) s3.heap.objs.size X.env)) (compPost (model X.prog X.w) X.A X.xe use Qf (.ref D) s3.heap.objs.size) { s3 with heap := pushCells (s3.heap.push { cls := .type "dict", data := .dict #[] }) scope.names }
  rw [hcl]
  obtain ⟨ce, hce⟩ : ∃ ce, compEnvC scope cl s3.heap.objs.size X.env = ce := ⟨_, rfl⟩
  rw [hce] at I4 pg pt pk pv ⊢
  have cL : ce.locals = s3.heap.objs.size := by rw [← hce]; rfl
  obtain ⟨s4, hs4⟩ : ∃ s4 : Shared, ({ s3 with heap := pushCells (s3.heap.push { cls := .type "dict", data := .dict #[] }) scope.names } : Shared) = s4 := ⟨_, rfl⟩
  rw [hs4] at I4 ⊢
  have st4 : tn 0 s4.heap := T.keep _ _ _ st3 fun b _ o e => hs4 ▸ pushCells_keeps _ _ _ _ (Heap.get?_push_of_some _ e)
  have stat : ∀ {σ' : L2.St} {H' : Hp} {s' : Shared}, Inv (X.blk s3 H3 scope ce fp) [] σ' H' s' → (∀ b ∈ fp, H' b = none) → ∀ b ∈ fp, FpOk (X.blk s3 H3 scope ce fp) [] H' b := fun {σ' H' s'} J' hn b hb =>
    ⟨hn b hb, (J'.ok.exf b hb).1, J'.ok.exfs b hb, .inl hb, fun x c e => (J'.ok.exf b hb).2 x c e, fun p hp => nomatch (show p ∈ ([] : List (Addr × Obj)) from hp)⟩
  have loop : codeAny (model X.prog X.w) X.A (.compLoop (.DictComp kx vx [⟨tg, iter, ifs, 0⟩] scope pos) 0 (.ref it) (.ref D) ce) (compPost (model X.prog X.w) X.A X.xe use Qf (.ref D) s3.heap.objs.size) s4 := by
    refine compLoop_anyD (fun m s' => ∃ i H', Inv (X.blk s3 H3 scope ce fp) [] (wipe σ (own.map (·.2))) H' s' ∧ tn i s'.heap ∧ (∀ b ∈ fp, H' b = none) ∧ W i m H') ?_ m0 ⟨0, H3, I4, st4, fun b hb => (f3 b hb).1.1, w0⟩
    rintro m s5 ⟨i, H5, I5, st5, n5, w5⟩
    rcases turn i m H5 w5 with ⟨stop, qq⟩ | ⟨go, Nx, hNx, step⟩
    · refine thnF (T.done (X.blk s3 H3 scope ce fp) rfl rfl rfl hc i [] s5 _ H5 (fun _ _ => False) I5 (stat I5 n5) st5 stop) fun r s6 ⟨hr, I6⟩ => ?_
      subst hr
      have I7 : Inv X pins σ H5 s6 := I3.call' (ch := fp) I6.os I6.base I6.hok I6.bare fun b hb => ⟨(f3 b hb).1.2.2.2.1, (f3 b hb).1.2.1, (f3 b hb).1.2.2.2.2.1, (f3 b hb).1.2.2.2.2.2⟩
      have nC : H5 s3.heap.objs.size = none := cL ▸ (show H5 ce.locals = none from I6.free)
      obtain ⟨mm, hm, _⟩ := I6.loc
      exact hend D s3.heap.objs.size s6 mm H5 I7 qq (cL ▸ (show s6.heap.Ns ce.locals mm from hm)) (I3.fpOk (Nat.le_refl _) nC)
    · refine thnF (T.item (X.blk s3 H3 scope ce fp) rfl rfl rfl hc i [] s5 _ H5 (fun _ _ => False) I5 (stat I5 n5) st5 go) fun r s6 ⟨u, hr, h6⟩ => ?_
      subst hr
      refine thnF h6 fun _ s7 ⟨x, H7, I7, r7, y7, st7, n7⟩ => ?_
      refine thnF (pg.run _ s7 _ H7 x u _ (I7.pinned (stat I7 n7) (T.obj _ _ st7)) r7 (step x H7 y7)) fun _ s8 ⟨σ8, H8, I8, hw8, q8⟩ => ?_
      have fin : ∀ {s' : Shared} {H' : Hp}, Inv (X.blk s3 H3 scope ce fp) ([] ++ pinsAt fp s7.heap) σ8 H' s' → Nx H' → ∃ j, j < m ∧ ∃ i H', Inv (X.blk s3 H3 scope ce fp) [] (wipe σ (own.map (·.2))) H' s' ∧ tn i s'.heap ∧ (∀ b ∈ fp, H' b = none) ∧ W i j H' := fun {s' H'} J' nx => by
        obtain ⟨m', hm, w'⟩ := hNx H' nx
        have pin' : ∀ b ∈ fp, ∀ o, s7.heap.get? b = some o → s'.heap.get? b = some o ∧ H' b = none := fun b hb o e =>
          have z := J'.pin (b, o) (List.mem_append_right _ (List.mem_append_right _ (mem_pinsAt hb e)))
          ⟨z.1, z.2.1⟩
        have hl : (wipe σ (own.map (·.2))).length = σ8.length := by rw [← hw8, L2.wipe_length]
        refine ⟨m', hm, i + 1, H', (J'.unpinned (pins := [])).weak hl (fun j v e => ?_), T.keep _ _ _ st7 fun b hb o e => (pin' b hb o e).1, fun b hb => ?_, w'⟩
        · rw [← hw8] at e
          exact (wipe_some e).1
        · obtain ⟨o, e, _⟩ := T.obj _ _ st7 b hb
          exact (pin' b hb o e).2
      refine thnF (pt.run _ s8 σ8 H8 _ I8 q8) fun b s9 ⟨H9, I9, q9⟩ => ?_
      cases b with
      | false => exact fin I9 (by simpa using q9)
      | true =>
        simp only [if_true] at q9 ⊢
        refine thnF (pk.run _ s9 σ8 H9 _ I9 q9) fun z s10 ⟨yk, H10, I10, r10, q10⟩ => ?_
        refine thnF (pv.run _ s10 σ8 H10 _ I10 q10) fun z2 s11 ⟨yv, H11, I11, r11, H6, pt6, nx⟩ => ?_
        exact put_pair (X := X.blk s3 H3 scope ce fp) hu I11 pt6 r10 r11 fun s12 I12 => fin I12 nx
  exact codeAny_compStart_dict loop (T.self X.A 0 _ _ _ st4 loop)
theorem pe_dg {n : Nat} {pos : Pos} (hu : X.A.units < cLine) (hc : X.calm = true) (hN : X.N.Nodup) (hi : PI X tg iter wi) (ok : BlkOk X.N X.env.scope scope own)
    (hg : Blk X scope fun Y => PG Y tg g) (ht : Blk X scope fun Y => PTs Y ifs tt) (hk : Blk X scope fun Y => PE Y kx tk) (he : Blk X scope fun Y => PE Y vx tv) (hs : ∀ x, foldedSetIterable iter X.env x = pure x) :
    PE X (.DictComp kx vx [⟨tg, iter, ifs, 0⟩] scope pos) (tDg (emp n) wi g tt tk tv (own.map (·.2))) := by
  refine ⟨fun pins s σ H Q I h => ?_⟩
  rw [arm_eval_DictComp]
  refine comp_run hu hc hN I hi ok hg ht hk he hs h fun D C s' m H' J q hn ⟨f0, f1, f2, f3, f4, f5⟩ => ⟨m, hn, fun h'' sb => ⟨.ref D, H', J.turned (t' := s'.toks) (fun b o hb e => (sb.2 b hb).trans e) f0 f1 f3 f4 f5, rfl, q⟩⟩
end
end
section
variable {X : Cx}
/-- name = {..} on one line, the name a local -/
theorem ps_setDg {n i : Nat} {y : Str} {py : Pos} {kx vx tg iter : Expr} {ifs : List Expr} {scope : Scope} {own : List (Str × Nat)} {pos spos : Pos} {wi : TI} {g : TG} {tt : TT} {tk tv : TE} (hu : X.A.units < cLine) (hc : X.calm = true) (hN : X.N.Nodup) (hy : X.N[i]? = some y) (hyl : X.env.scope.names.lookup y = some .local)
    (hsw : swapsWith (.DictComp kx vx [⟨tg, iter, ifs, 0⟩] scope pos) (some (.Name y py)) spos.line X.env = pure true) (hi : PI X tg iter wi) (ok : BlkOk X.N X.env.scope scope own)
    (hg : Blk X scope fun Y => PG Y tg g) (ht : Blk X scope fun Y => PTs Y ifs tt) (hk : Blk X scope fun Y => PE Y kx tk) (he : Blk X scope fun Y => PE Y vx tv) (hs : ∀ x, foldedSetIterable iter X.env x = pure x) :
    PS X (.Assign [.Name y py] (.DictComp kx vx [⟨tg, iter, ifs, 0⟩] scope pos) spos) (tAsg (tDg (emp n) wi g tt tk tv (own.map (·.2))) (gName i)) := by
  refine ⟨fun pins s σ H D I h => ?_⟩
  rw [exec_Assign_Name_used _ _ _ _ hsw]
  refine wpAny_bind (wpAny_standAt (wpAny_bind ?_))
  show wpAny _ X.A (do let _ ← comprehension (.DictComp kx vx [⟨tg, iter, ifs, 0⟩] scope pos) scope X.env (firstIterPos [⟨tg, iter, ifs, 0⟩] pos) newDict false (eval iter X.env) (some (assign (.Name y py) X.env))) _ _ s
  refine wpAny_bind (thn (comp_run (n := n) (Q := fun x H1 => gName i x σ H1 D.nx) (Qf := fun _ s' => SP X pins D .next s') hu hc hN I hi ok hg ht hk he hs h fun L C s' m H' J q hn ⟨f0, f1, f2, f3, f4, f5⟩ => ?_) fun _ s' hq => wpAny_pure (wpAny_pure hq))
  show wpAny _ _ (assign (.Name y py) X.env (.ref L)) _ _ _
  refine wpAny_assign_Name (store_ok2 (v := V.ref L) J hN hy (.inl hyl) rfl (fun s2 I2 ⟨a, sb, ha⟩ => ?_) (.inr hyl))
  have haC : C ≠ a := by
    rcases ha with rfl | z
    · exact f1
    · exact fun e => f4 y a z e.symm
  exact ⟨m, hn.sameBut sb haC, fun h3 sb3 => ⟨_, H', I2.turned (t' := s2.toks) (fun b o hb e => (sb3.2 b hb).trans e) f0 f1 f3 f4 f5, q⟩⟩
end
/-- one walk for a dict comprehension -/
theorem dg_it {J : It} {n : Nat} {G : Hp → Prop} {Y : Nat → Hp → V → Hp → Prop} (w : L2.Walk J n G Y) {o0 : HO} {g : TG} {tt : TT} {tk tv : TE} {vs : List Nat} {σ : L2.St} {H1 : Hp} {D : Addr} {Qd : Hp → Prop} (Pv : Nat → Hp → Prop) (h0 : Pv 0 (upd H1 D o0)) (hG : ∀ i H, i ≤ n → Pv i H → G H)
    (hs : ∀ i x H H', i < n → Pv i H → Y i H x H' → g x (wipe σ vs) H' fun σ2 H2 => wipe σ2 vs = wipe σ vs ∧ tt σ2 H2 fun b H3 =>
      if b = true then tk σ2 H3 fun y H4 => tv σ2 H4 fun z H5 => ∃ H6, DPut H5 D y z H6 ∧ Pv (i + 1) H6 else Pv (i + 1) H3) (hd : ∀ H, Pv n H → Qd H) :
    ∃ W : Nat → Nat → Hp → Prop, (∃ m, W 0 m (upd H1 D o0)) ∧ ∀ i m H, W i m H →
      (J.stop i H ∧ Qd H) ∨ (J.go i H ∧ ∃ Nx : Hp → Prop, (∀ H', Nx H' → ∃ m', m' < m ∧ W (i + 1) m' H') ∧ ∀ x H', J.yld i H x H' → g x (wipe σ vs) H' fun σ2 H2 => wipe σ2 vs = wipe σ vs ∧ tt σ2 H2 fun b H3 =>
        if b = true then tk σ2 H3 fun y H4 => tv σ2 H4 fun z H5 => ∃ H6, DPut H5 D y z H6 ∧ Nx H6 else Nx H3) := by
  refine ⟨fun i m H => m = n - i ∧ i ≤ n ∧ Pv i H, ⟨n, by simp, Nat.zero_le _, h0⟩, ?_⟩
  rintro i m H ⟨rfl, hi, p⟩
  have q := hG i H hi p
  rcases Nat.lt_or_eq_of_le hi with hlt | rfl
  · exact .inr ⟨w.goes i H hlt q, Pv (i + 1), fun H' p' => ⟨n - (i + 1), by omega, rfl, hlt, p'⟩, fun x H' y => hs i x H H' hlt p (w.yields i H x H' hlt q y)⟩
  · exact .inl ⟨w.stops H q, hd H p⟩
section
variable {T : Type} {k : Tk T} {g : Glob T} {tb : Tb} {lv : Nat} {X : Cx}
abbrev dcStep (g : Glob T) (tg : Tg) (c mk mv : E) (ρ : Ev) : PD → T → Option (Option (PD × PD) × T) := fun d τ => (bindT tg d (wipeE ρ tg.slots)).bind fun ρ1 => (ev g c ρ1 τ).bind fun q => (truth q.1).bind fun b => if b then (ev g mk ρ1 q.2).bind fun r => (ev g mv ρ1 r.2).map fun t => (some (r.1, t.1), t.2) else some (none, q.2)
/-- the reading of a dict comprehension -/
theorem rd_dcmp {n : Nat} {wi : TI} {gg : TG} {tt : TT} {tk tv : TE} {tg : Tg} {it : Ir} {c mk mv : E} (hn : n = 0 ∨ KB k.tv.kl n) (ri : RIE k g X wi it) (rg : RG k X.K gg tg) (rt : RT k g X tt c) (rk : RX k g X tk mk) (rx : RX k g X tv mv)
    {H0 : Hp} {ρ : Ev} {τ : T} {σ : Sg} {F : Fz} {H : Hp} {ds : List PD} {τ1 τ2 : T} {kvs : List (List L2.Key × PD)} {Q : VK} (ok : Okk k X.K H0 ρ σ F H) (gd : Gd k τ F H) (e1 : items g it ρ τ = some (ds, τ1)) (hz : ds.length ≤ sizeLine) (e2 : dcLoop n (dcStep g tg c mk mv ρ) ds [] τ1 = some (kvs, τ2))
    (q : ∀ D F' H', Le k.Z F H F' H' → Gd k τ2 F' H' → H D = none → ¬ F' D → ¬ k.Z D → Dd X.K k.tv F' H' n D kvs → Q (.ref D) H') : tDg (emp n) wi gg tt tk tv tg.slots σ H Q := by
  refine ri H0 ρ τ σ F H ds τ1 _ ok gd e1 fun J F1 H1 l1 g1 wk => ?_
  intro D hD
  obtain ⟨Gp, Y, w, hG, hY⟩ := wk
  have hZ : ¬ k.Z D := g1.newZ hD
  have hd0 : Dd X.K k.tv F1 (upd H1 D (emp n)) n D [] := by
    unfold emp
    by_cases h0 : n = 0
    · rw [if_pos h0]; exact dd_new (.inl ⟨h0, upd_same⟩)
    · rw [if_neg h0]; exact dd_new (.inr ⟨h0, hn.resolve_left h0, upd_same⟩)
  refine dg_it w (fun i H2 => ∃ (F2 : Fz) (τ3 : T) (acc : List (List L2.Key × PD)), Le k.Z F1 H1 F2 H2 ∧ Gd k τ3 F2 H2 ∧ ¬ F2 D ∧ Dd X.K k.tv F2 H2 n D acc ∧ acc.length ≤ i ∧ dcLoop n (dcStep g tg c mk mv ρ) (ds.drop i) acc τ3 = some (kvs, τ2))
    ⟨F1, τ1, [], le_new (.refl _ _ _) hD, gd_new g1 hD, noF g1 hD, hd0, Nat.zero_le _, e2⟩ ?_ ?_ ?_
  · rintro i H2 hi ⟨F2, τ3, acc, l2, g2, _⟩
    exact hG F2 H2 l2
  · rintro i x H2 H3 hi ⟨F2, τ3, acc, l2, g2, nD, hD2, hlen, el⟩ y
    obtain ⟨l3, g3, dd, hdd, rd⟩ := hY i H2 x H3 hi y F2 τ3 l2 g2
    have hdrop : ds.drop i = dd :: ds.drop (i + 1) := by
      rw [List.drop_eq_getElem_cons hi]
      rw [List.getElem?_eq_getElem hi] at hdd
      cases hdd
      rfl
    rw [hdrop, dcLoop] at el
    obtain ⟨⟨r1, τ4⟩, e4, el⟩ := bind2 el
    obtain ⟨ρ1, e8, e4⟩ := bind2 e4
    obtain ⟨⟨cd, τ5⟩, e9, e4⟩ := bind2 e4
    obtain ⟨b, e10, e4⟩ := bind2 e4
    have ok1 := ok.le gd l1
    have ok2 := ok1.le g1 l2
    have ok3 := (ok2.le g2 l3).wipe tg.slots
    have keepD : ∀ {F' H'}, Le k.Z F2 H2 F' H' → ∀ o, H2 D = some o → H' D = some o := fun l o h => l.keep _ _ h hZ
    refine rg H0 (wipeE ρ tg.slots) (L2.wipe σ tg.slots) F2 H3 dd x ρ1 _ ok3 rd e8 fun σ2 o2 len2 keep2 => ⟨?_, ?_⟩
    · refine wipe_congr (len2.trans (wipe_length _ _)) fun j hj => ?_
      rw [keep2 j hj, wipe_get, if_neg hj]
    · refine rt H0 ρ1 τ3 σ2 F2 H3 b τ5 _ o2 g3 (by unfold evT; rw [e9]; show Option.map _ _ = _; rw [e10]; rfl) fun F4 H4 l4 g4 => ?_
      have l24 := l3.trans l4
      have l14 := l2.trans l24
      obtain ⟨oD, hoD⟩ : ∃ oD, H2 D = some oD := by
        rcases hD2 with ⟨_, r, h, _⟩ | ⟨_, _, r, h, _⟩
        · exact ⟨_, h⟩
        · exact ⟨_, h⟩
      have nf : ∀ {F' H'}, Le k.Z F2 H2 F' H' → ¬ F' D := fun l z => (l.new D z).elim (fun z => nD z) fun z => by rw [hoD] at z; cases z
      cases b with
      | false =>
        rw [if_neg Bool.false_ne_true] at e4 ⊢
        cases e4
        exact ⟨F4, _, acc, l14, g4, nf l24, hD2.lw (l24.lw g2) (keepD l24), Nat.le_succ_of_le hlen, el⟩
      | true =>
        rw [if_pos rfl] at e4 ⊢
        obtain ⟨⟨zk, τ6⟩, e11, e4⟩ := bind2 e4
        obtain ⟨⟨zv, τ7⟩, e12, e13⟩ := Option.map_eq_some_iff.mp e4
        cases e13
        obtain ⟨kk, e14, el⟩ := bind2 el
        refine rk H0 ρ1 τ5 σ2 F4 H4 zk _ _ (o2.le g3 l4) g4 e11 fun vk F5 H5 l5 g5 r5 => ?_
        refine rx H0 ρ1 τ6 σ2 F5 H5 zv _ _ ((o2.le g3 l4).le g4 l5) g5 e12 fun vv F6 H6 l6 g6 r6 => ?_
        have l26 := (l24.trans l5).trans l6
        have l16 := l2.trans l26
        have hD6 : Dd X.K k.tv F6 H6 n D acc := hD2.lw (l26.lw g2) (keepD l26)
        obtain ⟨o0, ob, b1, b2, b3, b4⟩ := dd_put (Z := k.Z) hD6 (Rb.of (r5.lw (l6.lw g5))) e14 (by omega) r6
        have nf6 : ¬ F6 D := nf l26
        refine ⟨_, b3, F6, _, putD acc kk zv, ?_, gd_upd g6 hZ nf6, nf6, b4 (lw_upd nf6 fun u hu hi => b2 (by rw [b1] at hu; cases hu; exact hi)), ?_, el⟩
        · refine ⟨l16.sub, fun a o h nz => ?_, l16.new, fun a h => ?_⟩
          · rw [upd_ne (ne_of_none h hD)]
            exact l16.keep a o h nz
          · by_cases ea : a = D
            · subst ea; exact absurd hD h
            · rw [upd_ne ea]; exact l16.there a h
        · have : (putD acc kk zv).length ≤ acc.length + 1 := by
            unfold putD
            split <;> simp
          omega
  · rintro H2 ⟨F2, τ3, acc, l2, g2, nD, hD2, hlen, el⟩
    rw [List.drop_length, dcLoop] at el
    cases el
    exact q D F2 H2 (l1.trans l2) g2 (none_of_le l1 hD) nD hZ hD2
/-- what such a comprehension's reading is -/
def RDc (k : Tk T) (g : Glob T) (X : Cx) (n : Nat) (t : TE) (tg : Tg) (it : Ir) (c mk mv : E) : Prop := ∀ (H0 : Hp) (ρ : Ev) (τ : T) (σ : Sg) (F : Fz) (H : Hp) (ds : List PD) (τ1 τ2 : T) (kvs : List (List L2.Key × PD)) (Q : VK), Okk k X.K H0 ρ σ F H → Gd k τ F H → items g it ρ τ = some (ds, τ1) → ds.length ≤ sizeLine → dcLoop n (dcStep g tg c mk mv ρ) ds [] τ1 = some (kvs, τ2) →
  (∀ D F' H', Le k.Z F H F' H' → Gd k τ2 F' H' → H D = none → ¬ F' D → ¬ k.Z D → Dd X.K k.tv F' H' n D kvs → Q (.ref D) H') → t σ H Q
/-- the parts of a dict comprehension -/
structure SDC (k : Tk T) (g : Glob T) (X : Cx) (kx vx tgE iterE : Expr) (ifs : List Expr) (scope : Scope) (own : List (Str × Nat)) (tg : Tg) (it : Ir) (c mk mv : E) : Prop where
  a : SLC k g X kx tgE iterE ifs scope own tg it c mk
  b : SLC k g X vx tgE iterE ifs scope own tg it c mv
theorem SDC.run {n : Nat} {kx vx tgE iterE : Expr} {ifs : List Expr} {scope : Scope} {own : List (Str × Nat)} {tg : Tg} {it : Ir} {c mk mv : E} (hn : n = 0 ∨ KB k.tv.kl n) (h : SDC k g X kx vx tgE iterE ifs scope own tg it c mk mv) :
    ∃ wi gg tt tk tv, PI X tgE iterE wi ∧ (Blk X scope fun Y => PG Y tgE gg) ∧ (Blk X scope fun Y => PTs Y ifs tt) ∧ (Blk X scope fun Y => PE Y kx tk) ∧ (Blk X scope fun Y => PE Y vx tv) ∧ RDc k g X n (tDg (emp n) wi gg tt tk tv (own.map (·.2))) tg it c mk mv := by
  obtain ⟨wi, hpi, ri⟩ := h.a.it.ex
  obtain ⟨gg, hg, rg⟩ := uni_g h.a.ht
  obtain ⟨tk, hk, rk⟩ := uni_e h.a.he h.a.hp
  obtain ⟨tv, he, rx⟩ := uni_e h.b.he h.b.hp
  have tt : ∃ tt, (Blk X scope fun Y => PTs Y ifs tt) ∧ RT k g X tt c := by
    rcases h.a.hc with ⟨rfl, rfl⟩ | ⟨e, rfl, ht⟩
    · refine ⟨tYes, fun _ _ _ _ _ => pts_nil, fun H0 ρ τ σ F H b τ' Q o gd e q => ?_⟩
      unfold evT at e
      rw [ev] at e
      cases e
      exact q F H (.refl _ _ _) gd
    · exact uni_t ht
  obtain ⟨tt, ht, rt⟩ := tt
  refine ⟨wi, gg, tt, tk, tv, hpi, hg, ht, hk, he, fun H0 ρ τ σ F H ds τ1 τ2 kvs Q ok gd e1 hz e2 q => ?_⟩
  rw [h.a.hv]
  exact rd_dcmp hn ri rg rt rk rx ok gd e1 hz e2 q
/-- how such a statement is read -/
theorem rs_dcmp {n i : Nat} {t : TE} {tg : Tg} {it : Ir} {c mk mv : E} (r : RDc k g X n t tg it c mk mv) : RSd k X.K (tAsg t (gName i)) (fun ρ τ => ex g (.dcmp i n tg it c mk mv) ρ τ) := fun H0 F0 ρ τ σ F H o D ok l0 gd e q => by
  simp only [ex] at e
  obtain ⟨⟨ds, τ1⟩, e1, e⟩ := bind2 e
  simp only at e
  split at e
  · rename_i hz
    obtain ⟨⟨kvs, τ2⟩, e2, e⟩ := bind2 e
    split at e
    · rename_i hlt
      cases e
      refine r H0 ρ τ σ F H ds τ1 τ2 kvs _ ok gd e1 (okLen_le hz) e2 fun P F' H' lA gA hN nf nz hD => ?_
      exact q _ F' H' ((ok.le gd lA).putW ⟨P, rfl, hD⟩ nf nz (none_of_le l0 hN) hlt fun j t hj ej ho z => ok.noN hN j t ej ho z) (l0.trans lA) (lA.lw gd) gA
    · cases e
  · cases e
theorem ss_dcmp {n i : Nat} {x : Str} {kx vx tgE iterE : Expr} {ifs : List Expr} {scope : Scope} {pos spos py : Pos} {own : List (Str × Nat)} {tg : Tg} {it : Ir} {c mk mv : E} (G : GOk k g tb lv X) (hn : n = 0 ∨ KB tb.kl n) (hi : X.N[i]? = some x) (hx : Loc X.env.scope x) (hf : X.fn x = true ∨ X.env.scope.names.lookup x = some .local)
    (hs : swapsWith (.DictComp kx vx [⟨tgE, iterE, ifs, 0⟩] scope pos) (some (.Name x py)) spos.line X.env = pure false) (h : SDC k g X kx vx tgE iterE ifs scope own tg it c mk mv) :
    SS k g X (.Assign [.Name x py] (.DictComp kx vx [⟨tgE, iterE, ifs, 0⟩] scope pos) spos) (.dcmp i n tg it c mk mv) := by
  have hu := G.hu
  obtain ⟨wi, gg, tt, tk, tv, hpi, hg, ht, hk, he, r⟩ := h.run (n := n) (hn.imp id fun z => G.kl ▸ z)
  exact ⟨_, ps_set G.nd hi hx (pe_dg (by omega) G.calm G.nd hpi h.a.ok hg ht hk he h.a.it.hs) hs hf, rs_dcmp r⟩
theorem ss_dcmpS {n i : Nat} {x : Str} {kx vx tgE iterE : Expr} {ifs : List Expr} {scope : Scope} {pos spos py : Pos} {own : List (Str × Nat)} {tg : Tg} {it : Ir} {c mk mv : E} (G : GOk k g tb lv X) (hn : n = 0 ∨ KB tb.kl n) (hi : X.N[i]? = some x) (hl : X.env.scope.names.lookup x = some .local)
    (hs : swapsWith (.DictComp kx vx [⟨tgE, iterE, ifs, 0⟩] scope pos) (some (.Name x py)) spos.line X.env = pure true) (h : SDC k g X kx vx tgE iterE ifs scope own tg it c mk mv) :
    SS k g X (.Assign [.Name x py] (.DictComp kx vx [⟨tgE, iterE, ifs, 0⟩] scope pos) spos) (.dcmp i n tg it c mk mv) := by
  have hu := G.hu
  obtain ⟨wi, gg, tt, tk, tv, hpi, hg, ht, hk, he, r⟩ := h.run (n := n) (hn.imp id fun z => G.kl ▸ z)
  exact ⟨_, ps_setDg (by omega) G.calm G.nd hi hl hs hpi h.a.ok hg ht hk he h.a.it.hs, rs_dcmp r⟩
/-- {k: e} -/
def tD1 (n : Nat) (tk tv : TE) : TE := fun σ H Q => ∀ D, H D = none → tPairs [(tk, tv)] σ (upd H D (emp n)) fun ps H2 => ∃ y z H3, ps = [(y, z)] ∧ DPut H2 D y z H3 ∧ Q (.ref D) H3
theorem pe_d1 {n : Nat} {ke e : Expr} {pos : Pos} {tk tv : TE} (hu : X.A.units < cLine) (hk : PE X ke tk) (hv : PE X e tv) : PE X (.Dict [some ke] [e] pos) (tD1 n tk tv) := by
  refine ⟨fun pins s σ H Q I q => ?_⟩
  have hn := I.hok.fresh (Nat.le_refl s.heap.objs.size)
  have I1 := I.laid (a := s.heap.objs.size) (o := emp n) (h' := s.heap.push { cls := .type "dict", data := .dict #[] }) (t' := s.toks) (fun _ _ q => Heap.get?_push_of_some _ q) (Nat.le_refl _) (emp_ok n s.heap I.big)
  have pp := pps_cons (pos := pos) hk hv pps_nil
  refine wpAny_Dict_any rfl rfl (by simp) (by simp) (thn (pp.run pins _ σ _ _ I1 (q _ hn)) fun ws s2 ⟨ps, H2, I2, rel, y, z, H3, ep, g, q2⟩ => ?_)
  subst ep
  cases rel with
  | cons hp ht =>
    cases ht
    obtain ⟨ry, rv⟩ := hp
    unfold storeAll
    rw [List.forIn_cons]
    refine wpAny_bind (wpAny_bind (put_pair hu I2 g ry rv fun s' I3 => wpAny_pure ?_))
    exact wpAny_pure ⟨.ref s.heap.objs.size, H3, I3, rfl, q2⟩
/-- x = {k: e} -/
theorem ss_dd1 {n i : Nat} {x : Str} {ke e : Expr} {p pos' pos : Pos} {mk m : E} (G : GOk k g tb lv X) (hn : n = 0 ∨ KB tb.kl n) (hi : X.N[i]? = some x) (hx : Loc X.env.scope x) (hf : X.fn x = true ∨ X.env.scope.names.lookup x = some .local) (hk : SE k g X ke mk) (h : SE k g X e m) (hp : m.isPk = false) :
    SS k g X (.Assign [.Name x pos'] (.Dict [some ke] [e] p) pos) (.dd1 i n mk m) := by
  have hu := G.hu
  obtain ⟨tk, pk, _, bk, _⟩ := hk.ex
  obtain ⟨tv, pv, rx, _, _⟩ := h.ex
  refine ⟨_, ps_set G.nd hi hx (pe_d1 (n := n) (by omega) pk pv) rfl hf, fun H0 F0 ρ τ σ F H o D ok l0 gd e q => ?_⟩
  simp only [ex] at e
  obtain ⟨⟨dk, τ1⟩, e1, e⟩ := bind2 e
  obtain ⟨⟨dv, τ2⟩, e2, e⟩ := bind2 e
  obtain ⟨kk, e3, e⟩ := bind2 e
  split at e
  · rename_i hlt
    cases e
    intro a ha
    have gz := gd.newZ ha
    have l1 := le_new (k := k) (F := F) (.refl _ _ _) ha (o := emp n)
    refine bk H0 ρ τ σ F (upd H a (emp n)) dk τ1 _ (ok.le gd l1) (gd_new gd ha) e1 fun vk F1 H1 l2 g2 r2 => ?_
    refine rx hp H0 ρ τ1 σ F1 H1 dv τ2 _ ((ok.le gd l1).le (gd_new gd ha) l2) g2 e2 fun vv F2 H2 l3 g3 r3 => ?_
    have l23 := l2.trans l3
    have hE : H2 a = some (emp n) := l23.keep a _ upd_same gz
    have nf : ¬ F2 a := fun z => (l23.new a z).elim (noF gd ha) fun z => by rw [upd_same] at z; cases z
    have hd0 : Dd X.K k.tv F2 H2 n a [] := by
      unfold emp at hE
      by_cases h0 : n = 0
      · rw [if_pos h0] at hE; exact dd_new (.inl ⟨h0, hE⟩)
      · rw [if_neg h0] at hE; exact dd_new (.inr ⟨h0, G.kl ▸ hn.resolve_left h0, hE⟩)
    obtain ⟨o0, ob, b1, b2, b3, b4⟩ := dd_put hd0 (r2.le g2 l3) e3 (by rw [sizeLine_eq]; simp) r3
    refine ⟨vk, vv, _, rfl, b3, ?_⟩
    have lA := le_upd (o' := ob) l23 ha
    have gA := gd_upd (o := ob) g3 gz nf
    have lw := lw_upd (F := F2) (H := H2) (p := a) (o := ob) nf (fun u hu hi => by rw [b1] at hu; cases hu; exact b2 hi)
    have hS : SlOk k X.K F2 (upd H2 a ob) (.ref a) (.od n (putD [] kk dv)) := ⟨a, rfl, b4 lw⟩
    exact q _ F2 _ ((ok.le gd lA).putW hS nf gz (none_of_le l0 ha) hlt fun j t hj ej ho z => ok.noN ha j t ej ho z) (l0.trans lA) (lA.lw gd) gA
  · cases e
end

/-! ### dicts as values -/
section
variable {T : Type} {k : Tk T} {g : Glob T} {tb : Tb} {lv : Nat} {X : Cx}
theorem keyP_PD (x : L2.Key) : keyP (keyPD x) = some x := by cases x <;> rfl
theorem keysP_PD : ∀ kk : List L2.Key, keysP (kk.map keyPD) = some kk
  | [] => rfl
  | x :: kk => by rw [List.map_cons, keysP, keyP_PD, Option.bind_some, keysP_PD kk]; rfl
/-- keys of n entries -/
def KeyN (n : Nat) (kk : List L2.Key) : Prop := if n = 0 then ∃ x, kk = [x] else kk.length = n
theorem keyD_out {n : Nat} {kk : List L2.Key} (h : KeyN n kk) : keyD n (keyOut n kk) = some kk := by
  unfold KeyN at h
  unfold keyD keyOut
  by_cases h0 : n = 0
  · rw [if_pos h0] at h
    obtain ⟨x, rfl⟩ := h
    rw [if_pos h0, if_pos h0]
    show (keyP (keyPD x)).map _ = _
    rw [keyP_PD]
    rfl
  · rw [if_neg h0] at h
    rw [if_neg h0, if_neg h0]
    dsimp only
    rw [if_pos (by rw [List.length_map]; exact h), keysP_PD]
theorem valM_eq {n : Nat} {kvs : List (List L2.Key × PD)} (h : ∀ kv ∈ kvs, KeyN n kv.1) (kk : List L2.Key) : valM n (mPD n kvs) kk = valD kvs kk := by
  unfold valM valD mPD
  induction kvs with
  | nil => rfl
  | cons kv kvs ih =>
    have h1 := keyD_out (h kv List.mem_cons_self)
    rw [List.map_cons, List.find?_cons, List.find?_cons]
    dsimp only
    rw [h1]
    by_cases e : kv.1 = kk
    · rw [decide_eq_true (by rw [e]), decide_eq_true e]
      rfl
    · rw [decide_eq_false (by simpa using e), decide_eq_false e]
      exact ih fun q hq => h q (List.mem_cons_of_mem _ hq)
theorem dictOf_D (n : Nat) (m : List (PD × PD)) : dictOf (dictD n m) = some (n, m) := by
  show (if 0 ≤ (n : Int) then some ((n : Int).toNat, m) else none) = _
  rw [if_pos (by omega), Int.toNat_natCast]
/-- a frozen dict's table -/
theorem rpM_dd {F : Fz} {H : Hp} {a : Addr} {n : Nat} {o : HO} {r : List (List L2.Key × V)} {m : List (PD × PD)} (hH : H a = some o) (hd : DcO k.tv.kl n o r) (hm : RpM X.K k.tv F H n r m) : ∃ kvs, m = mPD n kvs ∧ (∀ kv ∈ kvs, KeyN n kv.1) ∧ Dd X.K k.tv F H n a kvs := by
  have all : ∀ {r : List (List L2.Key × V)} {m : List (PD × PD)}, RpM X.K k.tv F H n r m → ∃ kvs, m = mPD n kvs ∧ Paired (fun (p : List L2.Key × V) (q : List L2.Key × PD) => p.1 = q.1 ∧ Rp X.K k.tv F H p.2 q.2) r kvs := by
    intro r
    induction r with
    | nil => intro m h; cases h; exact ⟨[], rfl, .nil⟩
    | cons p r ih =>
      intro m h
      cases h with
      | cons h1 t =>
        obtain ⟨kvs, rfl, q⟩ := ih t
        exact ⟨(_, _) :: kvs, rfl, .cons ⟨rfl, h1⟩ q⟩
  obtain ⟨kvs, rfl, q⟩ := all hm
  rcases hd with ⟨h0, r', rfl, rfl⟩ | ⟨h0, h1, rfl, hl⟩
  · have q2 : ∀ {r' : List (L2.Key × V)} {kvs : List (List L2.Key × PD)}, Paired (fun (p : List L2.Key × V) (q : List L2.Key × PD) => p.1 = q.1 ∧ Rp X.K k.tv F H p.2 q.2) (r'.map fun p => ([p.1], p.2)) kvs → Kv (fun x => [x]) (fun _ => True) (Rp X.K k.tv F H) r' kvs ∧ ∀ kv ∈ kvs, KeyN n kv.1 := by
      intro r'
      induction r' with
      | nil => intro kvs h; cases h; exact ⟨.nil, fun _ h => nomatch h⟩
      | cons p r' ih =>
        intro kvs h
        cases h with
        | cons h1 t =>
          obtain ⟨i1, i2⟩ := ih t
          refine ⟨.cons ⟨h1.1, trivial, h1.2⟩ i1, fun kv hkv => ?_⟩
          rcases List.mem_cons.mp hkv with rfl | hkv
          · unfold KeyN
            rw [if_pos h0]
            exact ⟨p.1, h1.1.symm⟩
          · exact i2 kv hkv
    obtain ⟨i1, i2⟩ := q2 q
    exact ⟨kvs, rfl, i2, .inl ⟨h0, r', hH, i1⟩⟩
  · have q2 : ∀ {r : List (List L2.Key × V)} {kvs : List (List L2.Key × PD)}, (∀ p ∈ r, p.1.length = n) → Paired (fun (p : List L2.Key × V) (q : List L2.Key × PD) => p.1 = q.1 ∧ Rp X.K k.tv F H p.2 q.2) r kvs → Kv (fun x => x) (fun y => y.length = n) (Rp X.K k.tv F H) r kvs ∧ ∀ kv ∈ kvs, KeyN n kv.1 := by
      intro r
      induction r with
      | nil => intro kvs _ h; cases h; exact ⟨.nil, fun _ h => nomatch h⟩
      | cons p r ih =>
        intro kvs hl h
        cases h with
        | cons h1 t =>
          obtain ⟨i1, i2⟩ := ih (fun q hq => hl q (List.mem_cons_of_mem _ hq)) t
          have hp := hl p List.mem_cons_self
          refine ⟨.cons ⟨h1.1, by rw [← h1.1]; exact hp, h1.2⟩ i1, fun kv hkv => ?_⟩
          rcases List.mem_cons.mp hkv with rfl | hkv
          · unfold KeyN
            rw [if_neg h0, ← h1.1]
            exact hp
          · exact i2 kv hkv
    obtain ⟨i1, i2⟩ := q2 hl q
    exact ⟨kvs, rfl, i2, .inr ⟨h0, h1, r, hH, i1⟩⟩
/-- what a dict's datum stands for -/
theorem rp_dict {F : Fz} {H : Hp} {Z : Fz} {v : V} {d : PD} {n : Nat} {m : List (PD × PD)} (h : Rb X.K Z k.tv F H v d) (e : dictOf d = some (n, m)) : ∃ a kvs, v = .ref a ∧ m = mPD n kvs ∧ (∀ kv ∈ kvs, KeyN n kv.1) ∧ Dd X.K k.tv F H n a kvs := by
  unfold dictOf at e
  split at e
  · rename_i n' m'
    split at e
    · cases e
      rcases h with h | ⟨a, xs, ds, rfl, h, _⟩
      · generalize hd : PyData.dict ((PyData.none, PyData.int n') :: m) = D at h
        cases h <;> first | (cases hd; done) | skip
        rename_i a n2 o r m2 h1 h2 h3 h4
        cases hd
        rw [Int.toNat_natCast]
        obtain ⟨kvs, e1, e2, e3⟩ := rpM_dd h2 h3 h4
        exact ⟨a, kvs, rfl, e1, e2, e3⟩
      · cases h
    · cases e
  · cases e
theorem rx_vgt {td ty : TE} {a i : E} (ba : RB k g X td a) (bi : RB k g X ty i) : RX k g X (tDGet td ty) (.vgt a i) := fun H0 ρ τ σ F H z τ' Q ok gd e q => by
  rw [ev] at e
  obtain ⟨⟨d, τ1⟩, e1, e⟩ := bind2 e
  obtain ⟨⟨dk, τ2⟩, e2, e⟩ := bind2 e
  obtain ⟨⟨n, m⟩, e3, e⟩ := bind2 e
  obtain ⟨kk, e4, e⟩ := bind2 e
  obtain ⟨d', e5, e6⟩ := Option.map_eq_some_iff.mp e
  cases e6
  refine two ba bi ok gd e1 e2 fun v w F' H' l g' rv rw' => ?_
  obtain ⟨b, kvs, rfl, rfl, hk, hd⟩ := rp_dict rv e3
  rw [valM_eq hk] at e5
  obtain ⟨o, h1, h2, h3⟩ := dd_get hd rw' e4
  obtain ⟨v', rfl, r'⟩ := h3 _ e5
  exact ⟨b, v', rfl, h1, q v' F' H' l g' r'⟩
theorem se_vgt {ea ei : Expr} {pos : Pos} {a i : E} (hu : X.A.units + 65 < cLine) (ha : SE k g X ea a) (hi : SE k g X ei i) (hs : NoSl ei) : SE k g X (.Subscript ea ei pos) (.vgt a i) := by
  obtain ⟨ta, pa, _, ba, _⟩ := ha.ex
  obtain ⟨ti, pi, _, bi, _⟩ := hi.ex
  exact .ofX (pe_dget (by omega) pa pi hs) (rx_vgt ba bi) rfl
theorem rx_vin {ty td : TE} {a b : E} (ba : RB k g X ty a) (bb : RB k g X td b) : RX k g X (tDIn ty td) (.vin false a b) ∧ RX k g X (tDNotIn ty td) (.vin true a b) := by
  refine ⟨fun H0 ρ τ σ F H z τ' Q ok gd e q => ?_, fun H0 ρ τ σ F H z τ' Q ok gd e q => ?_⟩
  all_goals
    rw [ev] at e
    obtain ⟨⟨dk, τ1⟩, e1, e⟩ := bind2 e
    obtain ⟨⟨d, τ2⟩, e2, e⟩ := bind2 e
    obtain ⟨⟨n, m⟩, e3, e⟩ := bind2 e
    obtain ⟨kk, e4, e5⟩ := Option.map_eq_some_iff.mp e
    cases e5
    refine two ba bb ok gd e1 e2 fun v w F' H' l g' rv rw' => ?_
    obtain ⟨c, kvs, rfl, rfl, hk, hd⟩ := rp_dict rw' e3
    obtain ⟨o, h1, h2, _⟩ := dd_get hd rv e4
    refine ⟨c, o, rfl, h1, ?_⟩
    rw [h2]
    simp only [valM_eq hk] at q
  · rw [show ((valD kvs kk).isSome != false) = (valD kvs kk).isSome by cases (valD kvs kk).isSome <;> rfl] at q
    exact q _ F' H' l g' (.bl _)
  · rw [show ((valD kvs kk).isSome != true) = !(valD kvs kk).isSome by cases (valD kvs kk).isSome <;> rfl] at q
    exact q _ F' H' l g' (.bl _)
theorem ev_vin {n : Bool} {a b : E} : ∀ (ρ : Ev) (τ : T) (d : PD) (τ' : T), ev g (.vin n a b) ρ τ = some (d, τ') → ∃ c, d = .bool c := fun ρ τ d τ' e => by
  rw [ev] at e
  obtain ⟨p, e1, e⟩ := bind2 e
  obtain ⟨q, e2, e⟩ := bind2 e
  obtain ⟨r, e3, e⟩ := bind2 e
  obtain ⟨kk, e4, e5⟩ := Option.map_eq_some_iff.mp e
  cases e5
  exact ⟨_, rfl⟩
theorem se_vin {n : Bool} {ea eb : Expr} {pos : Pos} {a b : E} (hu : X.A.units + 65 < cLine) (hm : behindInMarks (dinOp n) eb = false) (ha : SE k g X ea a) (hb : SE k g X eb b) : SE k g X (.Compare ea [dinOp n] [eb] pos) (.vin n a b) := by
  obtain ⟨ta, pa, _, ba, _⟩ := ha.ex
  obtain ⟨tb', pb, _, bb, _⟩ := hb.ex
  cases n with
  | false => exact .ofX (pe_cmp (pc_din (by omega) pa pb) hm) (rx_vin ba bb).1 rfl
  | true => exact .ofX (pe_cmp (pc_dnotin (by omega) pa pb) hm) (rx_vin ba bb).2 rfl
theorem st_vin {n : Bool} {ea eb : Expr} {pos : Pos} {a b : E} (hu : X.A.units + 65 < cLine) (hm : behindInMarks (dinOp n) eb = false) (ha : SE k g X ea a) (hb : SE k g X eb b) : ST k g X (.Compare ea [dinOp n] [eb] pos) (.vin n a b) := by
  obtain ⟨ta, pa, _, ba, _⟩ := ha.ex
  obtain ⟨tb', pb, _, bb, _⟩ := hb.ex
  cases n with
  | false => exact st_val (pt_cmp (pc_din (by omega) pa pb) hm) (rx_vin ba bb).1 ev_vin
  | true => exact st_val (pt_cmp (pc_dnotin (by omega) pa pb) hm) (rx_vin ba bb).2 ev_vin
end
end Fh
namespace Fh
open PySem L2 PyProof.Rows

/-! ### THE CHECK: a tree is that of a program's syntax -/
/-- what a block's own names may store: none: a def's body -/
abbrev Fs := Option Scope
def fnOf : Fs → Str → Bool
  | none => fun _ => true
  | some s => fun x => s.names.lookup x == some .cell
def visB (sc : Scope) (x : Str) : Bool := match sc.names.lookup x with | some .local => true | some .cell => true | some .free => true | _ => false
def locB (fs : Fs) (sc : Scope) (x : Str) : Bool := match sc.names.lookup x with | some .local => true | some .cell => fnOf fs x | _ => false
def glB (sc : Scope) (x : Str) : Bool := decide (sc.names.lookup x = some .globalImplicit)
def dbgB (x : Str) : Bool := !(x == ("__debug__" : Str))
def varB (N : List Str) (sc : Scope) (i : Nat) (x : Str) : Bool := decide (N[i]? = some x) && visB sc x && dbgB x && !(x == ("__classdict__" : Str))
def opOf : BOp → Operator
  | .add => .Add | .sub => .Sub | .mul => .Mult | .fdiv => .FloorDiv | .mod => .Mod | .pow => .Pow | .shl => .LShift | .rep => .Mult
def Es.isNil : Es → Bool
  | .nil => true
  | _ => false
def plainIxB : Expr → Bool
  | .Slice _ _ _ _ => false
  | _ => true
/-- a display's keys: texts -/
def chkKs : List Str → List (Option Expr) → Bool
  | [], l => match l with
    | [] => true
    | _ => false
  | k :: ks, l => match l with
    | some (.Constant (.str j) _ _) :: r => decide (k = j) && chkKs ks r
    | _ => false
def Es.len : Es → Nat
  | .nil => 0
  | .cons _ r => r.len + 1
def E.isNon : E → Bool
  | .non => true
  | _ => false
def E.isTrueC : E → Bool
  | .bl true => true
  | _ => false
def baseB : Expr → Bool
  | .Call (.Name _ _) [] [] _ => false
  | _ => true
def notSet : Expr → Bool
  | .Set _ _ _ => false
  | _ => true
inductive BiK | blt (x : Str) (id : String) | ty (x : Str) (t : String) | mod (x : Str) (id : String) | no
  deriving DecidableEq
/-- which built-in it is, by its name -/
def biK : Bi → BiK
  | .len => .blt "len" "len"
  | .abs => .blt "abs" "abs"
  | .max2 => .blt "max" "max"
  | .min2 => .blt "min" "min"
  | .maxL => .blt "max" "max"
  | .minL => .blt "min" "min"
  | .sum => .blt "sum" "sum"
  | .all => .blt "all" "all"
  | .any => .blt "any" "any"
  | .int => .ty "int" "int"
  | .str => .ty "str" "str"
  | .list => .ty "list" "list"
  | .tuple => .ty "tuple" "tuple"
  | .sorted => .blt "sorted" "sorted"
  | .gcd => .mod "gcd" "math.gcd"
  | .isqrt => .mod "isqrt" "math.isqrt"
  | _ => .no
/-- the names of a target with their slots -/
def ownOf : Tg → Expr → List (Str × Nat)
  | .name i, .Name x _ => [(x, i)]
  | .cons a r, .Tuple (e :: es) n p => ownOf a e ++ ownOf r (.Tuple es n p)
  | _, _ => []
def gxScB (scope : Scope) (x : Str) : Bool := decide (scope.kind = .function) && !scope.isCoroutine && scope.names.all (fun y => !decide (y.2 = .cell) && !decide (y.2 = .free)) && decide (scope.names.lookup (".0" : Str) = some .local) && decide (scope.names.lookup x = some .local) && dbgB x
def qtB (tb : Tb) (scope : Scope) (x : Str) : Qt → Expr → Bool
  | .cmp o k, e => match e with
    | .Compare (.Name y _) [op] [.Constant (.int k') _ _] _ => decide (y = x) && decide (k = k') && decide (op = cOp o)
    | _ => false
  | .abs o c, e => match e with
    | .Compare (.Call (.Name z _) [.Name y _] [] _) [op] [.Name cn _] _ => decide (z = "abs") && decide (y = x) && decide (op = cOp o) && decide (tb.cns[c]? = some cn) && dbgB cn && glB scope "abs" && glB scope cn && decide (("abs" : Str) ∈ tb.bl)
    | _ => false
def isNameB : Expr → Bool
  | .Name _ _ => true
  | _ => false
mutual
def chkG (fs : Fs) (N : List Str) (sc : Scope) : Tg → Expr → Bool
  | .name i, e => match e with
    | .Name x _ => decide (N[i]? = some x) && locB fs sc x
    | _ => false
  | .nil, e => match e with
    | .Tuple [] _ _ => true
    | _ => false
  | .cons a r, e => match e with
    | .Tuple (e :: es) _ _ => nst e && chkG fs N sc a e && chkGs fs N sc r es && es.all nst && decide (r.len = some es.length)
    | _ => false
def chkGs (fs : Fs) (N : List Str) (sc : Scope) : Tg → List Expr → Bool
  | .name _, _ => false
  | .nil, es => match es with
    | [] => true
    | _ => false
  | .cons a r, es => match es with
    | e :: es => nst e && chkG fs N sc a e && chkGs fs N sc r es
    | [] => false
end
section
variable (tb : Tb) (N : List Str)
mutual
def chkE (fs : Fs) (sc : Scope) : E → Expr → Bool
  | .int i, e => match e with
    | .Constant (.int j) _ _ => decide (i = j)
    | _ => false
  | .str s, e => match e with
    | .Constant (.str j) _ _ => decide (s = j)
    | _ => false
  | .bl b, e => match e with
    | .Constant (.bool j) _ _ => decide (b = j)
    | _ => false
  | .non, e => match e with
    | .Constant .none _ _ => true
    | _ => false
  | .v i, e => match e with
    | .Name x _ => varB N sc i x
    | _ => false
  | .pk i, e => match e with
    | .Name x _ => varB N sc i x
    | _ => false
  | .con c, e => match e with
    | .Name x _ => glB sc x && decide (tb.cns[c]? = some x) && dbgB x
    | _ => false
  | .bin o a b, e => match e with
    | .BinOp ea op eb _ => decide (op = opOf o) && chkE fs sc a ea && chkE fs sc b eb
    | _ => false
  | .neg a, e => match e with
    | .UnaryOp .USub ea _ => chkE fs sc a ea
    | _ => false
  | .cmp o a b, e => match e with
    | .Compare ea [op] [eb] _ => decide (op = cOp o) && !behindInMarks (cOp o) eb && chkE fs sc a ea && chkE fs sc b eb
    | _ => false
  | .ch o o2 a b c, e => match e with
    | .Compare ea [op, op2] [eb, ec] _ => decide (op = cOp o) && decide (op2 = cOp o2) && !behindInMarks (cOp o2) ec && chkE fs sc a ea && chkE fs sc b eb && chkE fs sc c ec
    | _ => false
  | .ch3 o o2 o3 a b c d, e => match e with
    | .Compare ea [op, op2, op3] [eb, ec, ed] _ => decide (op = cOp o) && decide (op2 = cOp o2) && decide (op3 = cOp o3) && !behindInMarks (cOp o3) ed && chkE fs sc a ea && chkE fs sc b eb && chkE fs sc c ec && chkE fs sc d ed
    | _ => false
  | .isN n a, e => match e with
    | .Compare ea [op] [.Constant .none _ _] _ => decide (op = if n then CmpOp.IsNot else CmpOp.Is) && chkE fs sc a ea
    | _ => false
  | .isB n b a, e => match e with
    | .Compare ea [op] [.Constant (.bool c) _ _] _ => decide (op = if n then CmpOp.IsNot else CmpOp.Is) && decide (b = c) && chkE fs sc a ea
    | _ => false
  | .nt a, e => match e with
    | .UnaryOp .Not ea _ => chkE fs sc a ea
    | _ => false
  | .ands es, e => match e with
    | .BoolOp .And l _ => es.noPk && !es.isNil && chkEs fs sc es l
    | _ => false
  | .ors es, e => match e with
    | .BoolOp .Or l _ => es.noPk && !es.isNil && chkEs fs sc es l
    | _ => false
  | .ite t a b, e => match e with
    | .IfExp et ea eb _ => !a.isPk && !b.isPk && chkE fs sc t et && chkE fs sc a ea && chkE fs sc b eb
    | _ => false
  | .tup es, e => match e with
    | .Tuple l _ _ => es.noPk && chkEs fs sc es l
    | _ => false
  | .lst es, e => match e with
    | .List l _ => es.noPk && chkEs fs sc es l
    | _ => false
  | .ix a i, e => match e with
    | .Subscript ea ei _ => plainIxB ei && chkE fs sc a ea && chkE fs sc i ei
    | _ => false
  | .sl a lo hi, e => match e with
    | .Subscript ea (.Slice l h none _) _ => chkE fs sc a ea && (match l with | none => lo.isNon | some x => !lo.isNon && chkE fs sc lo x) && (match h with | none => hi.isNon | some x => !hi.isNon && chkE fs sc hi x)
    | _ => false
  | .rv a, e => match e with
    | .Subscript ea (.Slice none none (some (.UnaryOp .USub (.Constant (.int i) _ _) _)) _) _ => decide (i = 1) && chkE fs sc a ea
    | _ => false
  | .call f es, e => match e with
    | .Call (.Name x _) l [] _ => glB sc x && decide (tb.names[f]? = some x) && dbgB x && es.noPk && chkEs fs sc es l
    | _ => false
  | .bi b es, e => match e with
    | .Call (.Name x _) [ex, .Name y p2] [] _ => match isiTy b with
      | some ty => decide (x = "isinstance") && decide (x ∈ tb.bl) && glB sc x && decide (y ∈ tb.bl) && glB sc y && decide (bootBuiltins y = some (.type ty)) && decide (y ≠ "__name__") && dbgB y && nst ex && (match es with | .cons m .nil => chkE fs sc m ex | _ => false)
      | none => glB sc x && dbgB x && (match biK b with | .blt n id => decide (x = n) && decide (x ∈ tb.bl) | .ty n t => decide (x = n) && decide (x ∈ tb.bl) | .mod n id => decide (x = n) && decide ((x, id) ∈ tb.mf) | .no => false) && !es.isNil && chkEs fs sc es [ex, .Name y p2]
    | .Call (.Name x _) l [] _ => glB sc x && dbgB x && (match biK b with | .blt n id => decide (x = n) && decide (x ∈ tb.bl) | .ty n t => decide (x = n) && decide (x ∈ tb.bl) | .mod n id => decide (x = n) && decide ((x, id) ∈ tb.mf) | .no => false) && !es.isNil && chkEs fs sc es l
    | _ => false
  | .me m a es, e => match e with
    | .Call (.Attribute o nm ap) [ex] [] cp => match m with
      | .index => decide (nm = "index") && baseB o && nst ex && (ap.endLine == cp.line) && chkE fs sc a o && (match es with | .cons m .nil => chkE fs sc m ex | _ => false)
      | .join => decide (nm = "join") && baseB o && nst ex && (ap.endLine == cp.line) && chkE fs sc a o && (match es with | .cons m .nil => chkE fs sc m ex | _ => false)
      | .count => decide (nm = "count") && baseB o && nst ex && (ap.endLine == cp.line) && chkE fs sc a o && (match es with | .cons m .nil => chkE fs sc m ex | _ => false)
    | _ => false
  | .dix ks vs x, e => match e with
    | .Subscript (.Dict keys values _) ei _ => chkKs ks keys && !ks.isEmpty && decide (ks.length ≤ 15) && decide (vs.len = ks.length) && vs.noPk && plainIxB ei && chkEs fs sc vs values && chkE fs sc x ei
    | _ => false
  | .cix c x, e => match e with
    | .Subscript (.Name y _) ei _ => glB sc y && decide (tb.dcs[c]? = some y) && dbgB y && plainIxB ei && chkE fs sc x ei
    | _ => false
  | .gx al a t, e => match e with
    | .Call (.Name z _) [.GeneratorExp elt [⟨.Name x _, it, [], 0⟩] scope _] [] _ => tb.gx && decide (z = (if al then ("all" : Str) else ("any" : Str))) && decide (z ∈ tb.bl) && glB sc z && gxScB scope x && qtB tb scope x t elt && isNameB it && !a.isPk && chkE fs sc a it
    | _ => false
  | .lr tp a, e => match e with
    | .Call (.Name x _) [.Call (.Name y _) [ea] [] _] [] _ => decide (x = (if tp then ("tuple" : Str) else ("list" : Str))) && decide (y = "range") && glB sc x && glB sc y && decide (x ∈ tb.bl) && decide (y ∈ tb.bl) && nst ea && chkE fs sc a ea
    | _ => false
  | .ls a, e => match e with
    | .Call (.Name x _) [.Call (.Name y _) [ea] [] _] [] _ => decide (x = "len") && decide (y = "set") && glB sc x && glB sc y && decide (x ∈ tb.bl) && decide (y ∈ tb.bl) && nst ea && chkE fs sc a ea
    | _ => false
  | .ss a, e => match e with
    | .Call (.Name x _) [.Call (.Name y _) [ea] [] _] [] _ => decide (x = "sorted") && decide (y = "set") && glB sc x && glB sc y && decide (x ∈ tb.bl) && decide (y ∈ tb.bl) && nst ea && chkE fs sc a ea
    | _ => false
  | .din n i a, e => match e with
    | .Compare ea [op] [.Name x _] _ => decide (op = dinOp n) && varB N sc i x && chkE fs sc a ea
    | _ => false
  | .dgt i a, e => match e with
    | .Subscript (.Name x _) ei _ => plainIxB ei && varB N sc i x && chkE fs sc a ei
    | _ => false
  | .vgt a i, e => match e with
    | .Subscript ea ei _ => plainIxB ei && chkE fs sc a ea && chkE fs sc i ei
    | _ => false
  | .vin n a b, e => match e with
    | .Compare ea [op] [eb] _ => decide (op = dinOp n) && !behindInMarks (dinOp n) eb && chkE fs sc a ea && chkE fs sc b eb
    | _ => false
  | .dln i, e => match e with
    | .Call (.Name x _) [.Name y _] [] _ => decide (x = "len") && glB sc x && decide (x ∈ tb.bl) && varB N sc i y
    | _ => false
  | .dks i, e => match e with
    | .Call (.Name x _) [.Name y _] [] _ => decide (x = "sorted") && glB sc x && decide (x ∈ tb.bl) && varB N sc i y
    | _ => false
  | .rp a, e => match e with
    | .Call (.Name x _) [ea] [] _ => tb.rp && decide (x = "repr") && glB sc x && decide (x ∈ tb.bl) && nst ea && chkE fs sc a ea
    | _ => false
  | .lc tg it c elt, e => match e with
    | .ListComp eelt [⟨tgE, itE, ifs, 0⟩] scope _ => chkI fs sc tgE it itE && blkC N sc scope (ownOf tg tgE) && decide ((ownOf tg tgE).map (·.2) = tg.slots) && chkG (some scope) N (relS scope sc) tg tgE && !elt.isPk && chkE (some scope) (relS scope sc) elt eelt &&
        (match ifs with | [] => c.isTrueC | [x] => chkE (some scope) (relS scope sc) c x | _ => false)
    | _ => false
def chkEs (fs : Fs) (sc : Scope) : Es → List Expr → Bool
  | .nil, l => match l with
    | [] => true
    | _ => false
  | .cons m ms, l => match l with
    | e :: es => nst e && chkE fs sc m e && chkEs fs sc ms es
    | [] => false
def chkI (fs : Fs) (sc : Scope) (tg : Expr) : Ir → Expr → Bool
  | .rng1 a, e => match e with
    | .Call (.Name x _) [ea] [] _ => decide (x = "range") && decide (x ∈ tb.bl) && glB sc x && nst ea && chkE fs sc a ea
    | _ => false
  | .rng2 a b, e => match e with
    | .Call (.Name x _) [ea, eb] [] _ => decide (x = "range") && decide (x ∈ tb.bl) && glB sc x && nst ea && nst eb && chkE fs sc a ea && chkE fs sc b eb
    | _ => false
  | .rngC a b c, e => match e with
    | .Call (.Name x _) [ea, eb, ec] [] _ => decide (x = "range") && decide (x ∈ tb.bl) && glB sc x && nst ea && nst eb && chkE fs sc a ea && chkE fs sc b eb && (match ec with | .Constant (.int j) _ _ => decide (c = j) | .UnaryOp .USub (.Constant (.int j) _ _) _ => decide (c = -j) | _ => false)
    | _ => false
  | .seq a, e => notSet e && chkE fs sc a e
  | .enum a, e => match e with
    | .Call (.Name x _) [ea] [] _ => decide (x = "enumerate") && decide (x ∈ tb.bl) && glB sc x && nst ea && !a.isPk && chkE fs sc a ea && (match tg with | .Tuple _ _ _ => true | _ => false)
    | _ => false
  | .zip a b, e => match e with
    | .Call (.Name x _) [ea, eb] [] _ => decide (x = "zip") && decide (x ∈ tb.bl) && glB sc x && nst ea && nst eb && !a.isPk && !b.isPk && chkE fs sc a ea && chkE fs sc b eb && (match tg with | .Tuple _ _ _ => true | _ => false)
    | _ => false
  | .rev a, e => match e with
    | .Call (.Name x _) [ea] [] _ => decide (x = "reversed") && decide (x ∈ tb.bl) && glB sc x && nst ea && !a.isPk && chkE fs sc a ea
    | _ => false
end
end
end Fh
namespace Fh
open PySem L2 PyProof.Rows

section
variable {T : Type} {k : Tk T} {g : Glob T} {tb : Tb} {lv : Nat} {N : List Str}
structure CXt (k : Tk T) (g : Glob T) (tb : Tb) (lv : Nat) (N : List Str) (fs : Fs) (sc : Scope) (X : Cx) : Prop where
  G : GOk k g tb lv X
  hN : X.N = N
  hs : X.env.scope = sc
  hf : X.fn = fnOf fs
theorem CXt.blk {fs : Fs} {sc : Scope} {X : Cx} (C : CXt k g tb lv N fs sc X) (scope : Scope) (s : Shared) (H : Hp) (c : Addr) (cl : List (Str × Addr)) (fp : List Addr) : CXt k g tb lv N (some scope) (relS scope sc) (X.blk s H scope (compEnvC scope cl c X.env) fp) := by
  refine ⟨C.G.blk s H scope c cl fp, C.hN, ?_, rfl⟩
  rw [← C.hs]
  rfl
theorem vis_of {sc : Scope} {x : Str} (h : visB sc x = true) : Vis sc x := by
  unfold visB at h
  split at h
  · exact .inl (by assumption)
  · exact .inr (.inl (by assumption))
  · exact .inr (.inr (by assumption))
  · cases h
theorem loc_of {fs : Fs} {sc : Scope} {x : Str} {X : Cx} (C : CXt k g tb lv N fs sc X) (h : locB fs sc x = true) : Loc X.env.scope x ∧ (X.fn x = true ∨ X.env.scope.names.lookup x = some .local) := by
  unfold locB at h
  rw [C.hs]
  split at h
  · rename_i e
    exact ⟨.inl e, .inr e⟩
  · rename_i e
    exact ⟨.inr e, .inl (by rw [C.hf]; exact h)⟩
  · cases h
theorem gl_of {fs : Fs} {sc : Scope} {x : Str} {X : Cx} (C : CXt k g tb lv N fs sc X) (h : glB sc x = true) : Gl X x := by
  show X.env.scope.names.lookup x = _
  rw [C.hs]
  exact of_decide_eq_true h
theorem dbg_of {x : Str} (h : dbgB x = true) : (x == ("__debug__" : Str)) = false := by
  unfold dbgB at h
  simpa using h
theorem pv_of {fs : Fs} {sc : Scope} {X : Cx} {i : Nat} {x : Str} {pos : Pos} (C : CXt k g tb lv N fs sc X) (h : varB N sc i x = true) : PE X (.Name x pos) (tVar i) := by
  unfold varB at h
  simp only [Bool.and_eq_true, decide_eq_true_eq, Bool.not_eq_true'] at h
  obtain ⟨⟨⟨h1, h2⟩, h3⟩, h4⟩ := h
  exact pe_var (by rw [C.hN]; exact h1) (by rw [C.hs]; exact vis_of h2) (dbg_of h3) h4
/-! targets -/
mutual
theorem sndG {fs : Fs} {sc : Scope} {X : Cx} (C : CXt k g tb lv N fs sc X) : ∀ (t : Tg) (e : Expr), chkG fs N sc t e = true → SG k X e t
  | .name i, e, h => by
    unfold chkG at h
    split at h
    · simp only [Bool.and_eq_true, decide_eq_true_eq] at h
      obtain ⟨h1, h2⟩ := loc_of C h.2
      exact sg_name (pg_name C.G.nd (by rw [C.hN]; exact h.1) h1 h2)
    · cases h
  | .nil, e, h => by
    unfold chkG at h
    split at h
    · exact sg_tup C.G.calm rfl (fun d ρ ρ' e => bind_len (tg := .nil) rfl _ _ _ e) sgs_nil
    · cases h
  | .cons a r, e, h => by
    unfold chkG at h
    split at h
    · rename_i e es n p
      simp only [Bool.and_eq_true, decide_eq_true_eq] at h
      obtain ⟨⟨⟨⟨h1, h2⟩, h3⟩, h4⟩, h5⟩ := h
      have hl : (Tg.cons a r).len = some (es.length + 1) := by rw [Tg.len, h5]; rfl
      exact sg_tup C.G.calm (by rw [List.all_cons, h1, h4]; rfl) (fun d ρ ρ' e => bind_len hl _ _ _ e) (sgs_cons h1 (sndG C a e h2) (sndGs C r es h3))
    · cases h
theorem sndGs {fs : Fs} {sc : Scope} {X : Cx} (C : CXt k g tb lv N fs sc X) : ∀ (t : Tg) (es : List Expr), chkGs fs N sc t es = true → SGs k X es t
  | .name _, _, h => by unfold chkGs at h; cases h
  | .nil, es, h => by
    unfold chkGs at h
    split at h
    · exact sgs_nil
    · cases h
  | .cons a r, es, h => by
    unfold chkGs at h
    split at h
    · rename_i e es
      simp only [Bool.and_eq_true] at h
      exact sgs_cons h.1.1 (sndG C a e h.1.2) (sndGs C r es h.2)
    · cases h
end
theorem plainIx_of {e : Expr} (h : plainIxB e = true) : PlainIx e := by
  cases e <;> first | (intro _ _; rfl) | cases h
theorem nosl_of {e : Expr} (h : plainIxB e = true) : NoSl e := by
  cases e <;> first | (intro _ _; rfl) | cases h
theorem base_of {o : Expr} {nm : Str} {env : Env} (h : baseB o = true) : attributeBase o nm env (eval o env) = eval o env := by
  unfold attributeBase
  split
  · cases h
  · rfl
theorem fold_of {e : Expr} {env : Env} (h : notSet e = true) (x : Value) : foldedSetIterable e env x = pure x := by
  cases e <;> first | rfl | cases h
theorem st_ite {X : Cx} {t0 a0 b0 : Expr} {pos : Pos} {t a b : E} (ht : ST k g X t0 t) (ha : ST k g X a0 a) (hb : ST k g X b0 b) : ST k g X (.IfExp t0 a0 b0 pos) (.ite t a b) := by
  obtain ⟨tt, pt, rt⟩ := ht.ex
  obtain ⟨ta, pa, ra⟩ := ha.ex
  obtain ⟨tb', pb, rb⟩ := hb.ex
  refine ⟨fun σ H Q => tt σ H fun c H1 => if c = true then ta σ H1 Q else tb' σ H1 Q, ⟨fun pins s σ H Q I h => ?_⟩, fun H0 ρ τ σ F H z τ' Q ok gd e q => ?_⟩
  · show wpAny _ _ (do if ← isTrue t0 X.env (eval t0 X.env) then isTrue a0 X.env (eval a0 X.env) else isTrue b0 X.env (eval b0 X.env)) _ _ _
    refine wpAny_bind (thn (pt.run pins s σ H _ I h) fun c s1 ⟨H1, I1, q1⟩ => ?_)
    cases c with
    | true => exact pa.run pins s1 σ H1 Q I1 q1
    | false => exact pb.run pins s1 σ H1 Q I1 q1
  · unfold evT at e
    rw [ev] at e
    obtain ⟨⟨d, τ1⟩, e1, e2⟩ := bind2 e
    obtain ⟨⟨d1, τ2⟩, e3, e4⟩ := bind2 e1
    obtain ⟨c, e5, e6⟩ := bind2 e4
    refine rt H0 ρ τ σ F H c τ2 _ ok gd (by unfold evT; rw [e3]; show Option.map _ _ = _; rw [e5]; rfl) fun F1 H1 l1 g1 => ?_
    cases c with
    | true =>
      rw [if_pos rfl] at e6 ⊢
      exact ra H0 ρ τ2 σ F1 H1 z τ' _ (ok.le gd l1) g1 (by unfold evT; rw [e6]; exact e2) fun F2 H2 l2 g2 => q F2 H2 (l1.trans l2) g2
    | false =>
      rw [if_neg Bool.false_ne_true] at e6 ⊢
      exact rb H0 ρ τ2 σ F1 H1 z τ' _ (ok.le gd l1) g1 (by unfold evT; rw [e6]; exact e2) fun F2 H2 l2 g2 => q F2 H2 (l1.trans l2) g2
theorem se_biK {X : Cx} {fs : Fs} {sc : Scope} (C : CXt k g tb lv N fs sc X) {b : Bi} {x : Str} {p pos : Pos} {l : List Expr} {es : Es} (hg : glB sc x = true) (hd : dbgB x = true)
    (hk : (match biK b with | .blt n id => decide (x = n) && decide (x ∈ tb.bl) | .ty n t => decide (x = n) && decide (x ∈ tb.bl) | .mod n id => decide (x = n) && decide ((x, id) ∈ tb.mf) | .no => false) = true)
    (hn : l.all nst = true) (he : l ≠ []) (h : SA k g X l es) : SE k g X (.Call (.Name x p) l [] pos) (.bi b es) := by
  cases l with
  | nil => exact absurd rfl he
  | cons e l =>
    have G := C.G
    have hu := G.hu
    have hgl := gl_of C hg
    have hdb := dbg_of hd
    cases b <;> simp only [biK, Bool.and_eq_true, decide_eq_true_eq] at hk <;> try contradiction
    all_goals (obtain ⟨rfl, hx⟩ := hk)
    · exact se_biB call_len bi_len G hgl hx (by decide +kernel) (by decide) hdb hn h
    · exact se_biB call_abs bi_abs G hgl hx (by decide +kernel) (by decide) hdb hn h
    · exact se_biB ((call_max2 G.calm).or (cr_max2D G.calm hu)) bi_max2 G hgl hx (by decide +kernel) (by decide) hdb hn h
    · exact se_biB ((call_min2 G.calm).or (cr_min2D G.calm hu)) bi_min2 G hgl hx (by decide +kernel) (by decide) hdb hn h
    · exact se_biB ((cr_max G.calm).or ((cr_maxD G.calm hu).or (cr_maxTD G.calm hu))) bi_maxL G hgl hx (by decide +kernel) (by decide) hdb hn h
    · exact se_biB ((cr_min G.calm).or ((cr_minD G.calm hu).or (cr_minTD G.calm hu))) bi_minL G hgl hx (by decide +kernel) (by decide) hdb hn h
    · exact se_biB ((cr_sum G.calm).or (cr_sumT G.calm)) bi_sum G hgl hx (by decide +kernel) (by decide) hdb hn h
    · exact se_biT (call_int1.or call_int_str) bi_int G hgl hx (by decide +kernel) (by decide) hdb hn h
    · exact se_biT call_str_int bi_str G hgl hx (by decide +kernel) (by decide) hdb hn h
    · exact se_biT call_list_of bi_list G hgl hx (by decide +kernel) (by decide) hdb hn h
    · exact se_biT call_tuple_of bi_tuple G hgl hx (by decide +kernel) (by decide) hdb hn h
    · exact se_biB (cr_sortD hu) bi_sorted G hgl hx (by decide +kernel) (by decide) hdb hn h
    · exact se_biM cr_gcd bi_gcd G hgl hx hdb hn h
    · exact se_biM cr_isq bi_isq G hgl hx hdb hn h
    · exact se_biB (cr_all G.calm) bi_all G hgl hx (by decide +kernel) (by decide) hdb hn h
    · exact se_biB (cr_any G.calm) bi_any G hgl hx (by decide +kernel) (by decide) hdb hn h
theorem evs_lens {T : Type} {g : Glob T} : ∀ {ms : Es} {ρ : Ev} {τ τ' : T} {ds : List PD}, evs g ms ρ τ = some (ds, τ') → ds.length = ms.len
  | .nil, _, _, _, _, e => by rw [evs] at e; cases e; rfl
  | .cons m ms, _, _, _, _, e => by
    rw [evs] at e
    obtain ⟨p, e1, e⟩ := bind2 e
    obtain ⟨q, e2, e3⟩ := Option.map_eq_some_iff.mp e
    cases e3
    rw [List.length_cons, evs_lens e2, Es.len]
theorem keys_of : ∀ {ks : List Str} {keys : List (Option Expr)}, chkKs ks keys = true → keys.all (·.isSome) = true ∧ keys.length = ks.length
  | [], keys, h => by
    unfold chkKs at h
    split at h
    · exact ⟨rfl, rfl⟩
    · cases h
  | s :: ks, keys, h => by
    unfold chkKs at h
    split at h
    · rw [Bool.and_eq_true] at h
      obtain ⟨h1, h2⟩ := keys_of h.2
      exact ⟨by rw [List.all_cons, h1]; rfl, by rw [List.length_cons, List.length_cons, h2]⟩
    · cases h
end
end Fh
namespace Fh
open PySem L2 PyProof.Rows

section
variable {T : Type} {k : Tk T} {g : Glob T} {tb : Tb} {lv : Nat} {N : List Str}
/-- what a list of trees gives -/
structure SEs (k : Tk T) (g : Glob T) (X : Cx) (l : List Expr) (ms : Es) : Prop where
  sa : SA k g X l ms
  st : l.all nst = true
  len : ms.isNil = l.isEmpty
  pr : ms.noPk = true → ∀ (pos : Pos) (ks : List Str) (keys : List (Option Expr)), chkKs ks keys = true → ms.len = ks.length → SPr k g X pos keys l ks ms
  ba : ms.noPk = true → ∀ pos, l ≠ [] → SE k g X (.BoolOp .And l pos) (.ands ms)
  bo : ms.noPk = true → ∀ pos, l ≠ [] → SE k g X (.BoolOp .Or l pos) (.ors ms)
  wa : l ≠ [] → SW (k := k) (g := g) (X := X) l .And ms
  wo : l ≠ [] → SW (k := k) (g := g) (X := X) l .Or ms
theorem not_nil {l : List Expr} {ms : Es} (h : ms.isNil = l.isEmpty) (n : ms.isNil = false) : l ≠ [] := by
  intro e
  subst e
  rw [n] at h
  cases h
theorem plain_name {x : Str} {p : Pos} {env : Env} : ∀ whole, isTrue (.Name x p) env whole = (do let v ← whole; standAt (Expr.Name x p).pos; holding [v] (truthy v)) := fun _ => rfl
theorem slc_mk {X : Cx} {fs : Fs} {sc : Scope} (C : CXt k g tb lv N fs sc X) {tg : Tg} {it : Ir} {c elt : E} {eelt tgE itE : Expr} {ifs : List Expr} {scope : Scope} (hi : SIE k g X tgE itE it) (h2 : blkC N sc scope (ownOf tg tgE) = true) (h3 : (ownOf tg tgE).map (·.2) = tg.slots) (h4 : chkG (some scope) N (relS scope sc) tg tgE = true) (h5 : elt.isPk = false)
    (he : ∀ Y, CXt k g tb lv N (some scope) (relS scope sc) Y → SE k g Y eelt elt) (hc : (ifs = [] ∧ c = .bl true) ∨ ∃ e, ifs = [e] ∧ ∀ Y, CXt k g tb lv N (some scope) (relS scope sc) Y → ST k g Y e c) : SLC k g X eelt tgE itE ifs scope (ownOf tg tgE) tg it c elt :=
  ⟨hi, by rw [C.hN, C.hs]; exact blkOk_by h2, h3, fun s H a cl fp => sndG (C.blk scope s H a cl fp) tg tgE h4, hc.elim .inl fun ⟨e, h1, h2⟩ => .inr ⟨e, h1, fun s H a cl fp => h2 _ (C.blk scope s H a cl fp)⟩, fun s H a cl fp => he _ (C.blk scope s H a cl fp), h5⟩
/-! any, all of a generator -/
theorem hop_of {prog : Program} {w : World} {o : COp} {k : Int} {f : Int → Bool} (h : qop o k = some f) (A : Around) (E : Value → Shared → Prop) (s : Shared) (a : Int) (t u : Tok) (Q : Value → Shared → Prop) (q : Q (.bool (f a)) s) : wpAny (model prog w) A (compareOp (cOp o) (.int a t) (.int k u)) Q E s := by
  cases o with
  | eq => cases h; exact PySem.P.eq_int q
  | ne => cases h; exact PySem.P.ne_int q
  | lt => cases h; exact PySem.P.lt_int q
  | le => cases h; exact PySem.P.le_int q
  | gt => cases h; exact PySem.P.gt_int q
  | ge => cases h; exact PySem.P.ge_int q
  | inn => cases h
  | nin => cases h
theorem se_gx' {X : Cx} {al : Bool} {elt iter : Expr} {x : Str} {px p pos gpos : Pos} {scope : Scope} {a : E} {t : Qt} (G : GOk k g tb lv X) (ht : tb.gx = true) (hg : Gl X (if al then ("all" : Str) else ("any" : Str))) (hb : (if al then ("all" : Str) else ("any" : Str)) ∈ tb.bl)
    (hS : gxScB scope x = true) (hQ : qtB tb scope x t elt = true) (h : SE k g X iter a) (hp : a.isPk = false) (hn : isNameB iter = true) :
    SE k g X (.Call (.Name (if al then ("all" : Str) else ("any" : Str)) p) [.GeneratorExp elt [⟨.Name x px, iter, [], 0⟩] scope gpos] [] pos) (.gx al a t) := by
  cases hq : qfn g.con t with
  | none =>
    refine .ofX (t := fun _ _ _ => False) ⟨fun _ _ _ _ _ _ h => h.elim⟩ (fun H0 ρ τ σ F H d τ' Q ok gd e q => ?_) rfl
    rw [ev] at e
    obtain ⟨⟨d1, τ1⟩, e1, e⟩ := bind2 e
    obtain ⟨b, e2, e3⟩ := Option.map_eq_some_iff.mp e
    rw [hq] at e2
    unfold gxD at e2
    split at e2
    · rename_i h5
      cases h5
    · cases e2
  | some f =>
    unfold gxScB at hS
    simp only [Bool.and_eq_true, decide_eq_true_eq, Bool.not_eq_true', List.all_eq_true, decide_eq_false_iff_not] at hS
    obtain ⟨⟨⟨⟨⟨s1, s2⟩, s3⟩, s4⟩, s5⟩, s6⟩ := hS
    have S : GxR.GenS X.env scope x := ⟨s1, s2, fun y hy => (s3 y hy).1, s4, s5, fun y hy z => absurd z (s3 y hy).2⟩
    have hs : ∀ v, genFold iter X.env v = pure v := fun v => by
      cases iter <;> first | rfl | cases hn
    refine se_gx G ht hg hb S h hp hq ?_ hs
    cases t with
    | cmp o k' =>
      simp only [qtB] at hQ
      split at hQ
      · simp only [Bool.and_eq_true, decide_eq_true_eq] at hQ
        obtain ⟨⟨rfl, rfl⟩, rfl⟩ := hQ
        exact elt_int s1 s5 (dbg_of s6) (hop_of hq)
      · cases hQ
    | abs o c =>
      simp only [qtB] at hQ
      split at hQ
      · simp only [Bool.and_eq_true, decide_eq_true_eq] at hQ
        obtain ⟨⟨⟨⟨⟨⟨⟨rfl, rfl⟩, rfl⟩, q4⟩, q5⟩, q6⟩, q7⟩, q8⟩ := hQ
        obtain ⟨u, v, d, m1, r1, c1, r2⟩ := G.cons c _ q4
        simp only [qfn, c1] at hq
        split at hq
        · rename_i k' hk'
          cases hk'
          obtain ⟨f', hf, rfl⟩ := Option.map_eq_some_iff.mp hq
          have hv : v = .int k' := by
            have := r2 (fun _ => False) (fun _ => none)
            cases this
            rfl
          subst hv
          obtain ⟨tk, rfl⟩ := r1
          exact elt_abs s1 s5 (dbg_of s6) (of_decide_eq_true q6) (G.blt _ q8) (of_decide_eq_true q7) (dbg_of q5) m1 (hop_of hf)
        · cases hq
      · cases hQ
theorem both_i {X : Cx} {tg e : Expr} {it : Ir} (h : SI k g X tg e it) : (it.pkS = false → SI k g X tg e it) ∧ SIE k g X tg e it := ⟨fun _ => h, h.e⟩
theorem isTrueC_eq {c : E} (h : c.isTrueC = true) : c = .bl true := by
  unfold E.isTrueC at h
  split at h
  · rfl
  · cases h
theorem isNon_eq {c : E} (h : c.isNon = true) : c = .non := by
  unfold E.isNon at h
  split at h
  · rfl
  · cases h
theorem chkEs_len : ∀ {ms : Es} {fs : Fs} {sc : Scope} {l : List Expr}, chkEs tb N fs sc ms l = true → l.length = ms.len
  | .nil, _, _, l, h => by
    unfold chkEs at h
    split at h
    · rfl
    · cases h
  | .cons m ms, _, _, l, h => by
    unfold chkEs at h
    split at h
    · simp only [Bool.and_eq_true] at h
      rw [List.length_cons, chkEs_len h.2, Es.len]
    · cases h
mutual
theorem sndE : ∀ (m : E) (fs : Fs) (sc : Scope) (e : Expr) (X : Cx), chkE tb N fs sc m e = true → CXt k g tb lv N fs sc X → SE k g X e m ∧ ST k g X e m
  | .int i, fs, sc, e, X, h, C => by
    unfold chkE at h
    split at h
    · cases of_decide_eq_true h
      exact ⟨se_int, st_plain se_int fun _ => rfl⟩
    · cases h
  | .str s, fs, sc, e, X, h, C => by
    unfold chkE at h
    split at h
    · cases of_decide_eq_true h
      exact ⟨se_str, st_plain se_str fun _ => rfl⟩
    · cases h
  | .bl b, fs, sc, e, X, h, C => by
    unfold chkE at h
    split at h
    · cases of_decide_eq_true h
      exact ⟨se_bl, st_plain se_bl fun _ => rfl⟩
    · cases h
  | .non, fs, sc, e, X, h, C => by
    unfold chkE at h
    split at h
    · exact ⟨se_non, st_plain se_non fun _ => rfl⟩
    · cases h
  | .v i, fs, sc, e, X, h, C => by
    unfold chkE at h
    split at h
    · have p := fun pos => se_v (k := k) (g := g) (pv_of (pos := pos) C h)
      exact ⟨p _, st_plain (p _) fun _ => rfl⟩
    · cases h
  | .pk i, fs, sc, e, X, h, C => by
    unfold chkE at h
    split at h
    · have p := fun pos => se_pk (k := k) (g := g) (pv_of (pos := pos) C h)
      exact ⟨p _, st_plain (p _) fun _ => rfl⟩
    · cases h
  | .con c, fs, sc, e, X, h, C => by
    unfold chkE at h
    split at h
    · simp only [Bool.and_eq_true, decide_eq_true_eq] at h
      have p := fun pos => se_con (k := k) (g := g) (pos := pos) C.G (gl_of C h.1.1) h.1.2 (dbg_of h.2)
      exact ⟨p _, st_plain (p _) fun _ => rfl⟩
    · cases h
  | .bin o a b, fs, sc, e, X, h, C => by
    unfold chkE at h
    split at h
    · rename_i ea op eb pos
      simp only [Bool.and_eq_true, decide_eq_true_eq] at h
      obtain ⟨⟨rfl, h3⟩, h4⟩ := h
      have ha := (sndE a fs sc ea X h3 C).1
      have hb := (sndE b fs sc eb X h4 C).1
      have p : SE k g X (.BinOp ea (opOf o) eb pos) (.bin o a b) := by
        cases o with
        | add => exact se_add ha hb
        | sub => exact se_sub ha hb
        | mul => exact se_mul ha hb
        | fdiv => exact se_fdiv ha hb
        | mod => exact se_mod ha hb
        | pow => exact se_pow ha hb
        | shl => exact se_shl ha hb
        | rep => exact se_rep ha hb
      exact ⟨p, st_plain p fun _ => rfl⟩
    · cases h
  | .neg a, fs, sc, e, X, h, C => by
    unfold chkE at h
    split at h
    · rename_i ea pos
      have p := se_neg (pos := pos) (sndE a fs sc ea X h C).1
      exact ⟨p, st_plain p fun _ => rfl⟩
    · cases h
  | .cmp o a b, fs, sc, e, X, h, C => by
    unfold chkE at h
    split at h
    · rename_i ea op eb pos
      simp only [Bool.and_eq_true, decide_eq_true_eq, Bool.not_eq_true'] at h
      obtain ⟨⟨⟨rfl, h2⟩, h3⟩, h4⟩ := h
      have ha := (sndE a fs sc ea X h3 C).1
      have hb := (sndE b fs sc eb X h4 C).1
      exact ⟨se_cmp C.G.hu h2 ha hb, st_cmp C.G.hu h2 ha hb⟩
    · cases h
  | .ch o o2 a b c, fs, sc, e, X, h, C => by
    unfold chkE at h
    split at h
    · rename_i ea op op2 eb ec pos
      simp only [Bool.and_eq_true, decide_eq_true_eq, Bool.not_eq_true'] at h
      obtain ⟨⟨⟨⟨⟨rfl, rfl⟩, h2⟩, h3⟩, h4⟩, h5⟩ := h
      have ha := (sndE a fs sc ea X h3 C).1
      have hb := (sndE b fs sc eb X h4 C).1
      have hc := (sndE c fs sc ec X h5 C).1
      exact ⟨se_ch C.G.hu h2 ha hb hc, st_ch C.G.hu h2 ha hb hc⟩
    · cases h
  | .ch3 o o2 o3 a b c d, fs, sc, e, X, h, C => by
    unfold chkE at h
    split at h
    · rename_i ea op op2 op3 eb ec ed pos
      simp only [Bool.and_eq_true, decide_eq_true_eq, Bool.not_eq_true'] at h
      obtain ⟨⟨⟨⟨⟨⟨⟨rfl, rfl⟩, rfl⟩, h2⟩, h3⟩, h4⟩, h5⟩, h6⟩ := h
      have ha := (sndE a fs sc ea X h3 C).1
      have hb := (sndE b fs sc eb X h4 C).1
      have hc := (sndE c fs sc ec X h5 C).1
      have hd := (sndE d fs sc ed X h6 C).1
      exact ⟨se_ch3 C.G.hu h2 ha hb hc hd, st_ch3 C.G.hu h2 ha hb hc hd⟩
    · cases h
  | .gx al a t, fs, sc, e, X, h, C => by
    unfold chkE at h
    split at h
    · rename_i z p elt x px it scope gpos pos
      simp only [Bool.and_eq_true, decide_eq_true_eq, Bool.not_eq_true'] at h
      obtain ⟨⟨⟨⟨⟨⟨⟨⟨h1, rfl⟩, h3⟩, h4⟩, h5⟩, h6⟩, h7⟩, h8⟩, h9⟩ := h
      have r := se_gx' (p := p) (px := px) (gpos := gpos) (pos := pos) C.G h1 (gl_of C h4) h3 h5 h6 (sndE a fs sc it X h9 C).1 h8 h7
      exact ⟨r, st_plain r fun _ => rfl⟩
    · cases h
  | .din n i a, fs, sc, e, X, h, C => by
    unfold chkE at h
    split at h
    · rename_i ea op x p pos
      simp only [Bool.and_eq_true, decide_eq_true_eq] at h
      obtain ⟨⟨rfl, h2⟩, h3⟩ := h
      have ha := (sndE a fs sc ea X h3 C).1
      exact ⟨se_din C.G.hu (pv_of C h2) ha, st_din C.G.hu (pv_of C h2) ha⟩
    · cases h
  | .dgt i a, fs, sc, e, X, h, C => by
    unfold chkE at h
    split at h
    · rename_i x p ei pos
      simp only [Bool.and_eq_true] at h
      obtain ⟨⟨h1, h2⟩, h3⟩ := h
      have r := se_dgt (pos := pos) C.G.hu (pv_of (pos := p) C h2) (sndE a fs sc ei X h3 C).1 (nosl_of h1)
      exact ⟨r, st_plain r fun _ => rfl⟩
    · cases h
  | .vgt a i, fs, sc, e, X, h, C => by
    unfold chkE at h
    split at h
    · rename_i ea ei pos
      simp only [Bool.and_eq_true] at h
      obtain ⟨⟨h1, h2⟩, h3⟩ := h
      have r := se_vgt (pos := pos) C.G.hu (sndE a fs sc ea X h2 C).1 (sndE i fs sc ei X h3 C).1 (nosl_of h1)
      exact ⟨r, st_plain r fun _ => rfl⟩
    · cases h
  | .vin n a b, fs, sc, e, X, h, C => by
    unfold chkE at h
    split at h
    · rename_i ea op eb pos
      simp only [Bool.and_eq_true, decide_eq_true_eq, Bool.not_eq_true'] at h
      obtain ⟨⟨⟨rfl, h2⟩, h3⟩, h4⟩ := h
      have ha := (sndE a fs sc ea X h3 C).1
      have hb := (sndE b fs sc eb X h4 C).1
      exact ⟨se_vin C.G.hu h2 ha hb, st_vin C.G.hu h2 ha hb⟩
    · cases h
  | .dln i, fs, sc, e, X, h, C => by
    unfold chkE at h
    split at h
    · rename_i x p y p2 pos
      simp only [Bool.and_eq_true, decide_eq_true_eq] at h
      obtain ⟨⟨⟨h1, h2⟩, h3⟩, h4⟩ := h
      have r := se_dln (p := p) (pos := pos) C.G h1 (gl_of C h2) h3 (pv_of (pos := p2) C h4)
      exact ⟨r, st_plain r fun _ => rfl⟩
    · cases h
  | .dks i, fs, sc, e, X, h, C => by
    unfold chkE at h
    split at h
    · rename_i x p y p2 pos
      simp only [Bool.and_eq_true, decide_eq_true_eq] at h
      obtain ⟨⟨⟨h1, h2⟩, h3⟩, h4⟩ := h
      have r := se_dks (p := p) (pos := pos) C.G h1 (gl_of C h2) h3 (pv_of (pos := p2) C h4)
      exact ⟨r, st_plain r fun _ => rfl⟩
    · cases h
  | .rp a, fs, sc, e, X, h, C => by
    unfold chkE at h
    split at h
    · rename_i x p ea pos
      simp only [Bool.and_eq_true, decide_eq_true_eq] at h
      obtain ⟨⟨⟨⟨⟨h1, h2⟩, h3⟩, h4⟩, h5⟩, h6⟩ := h
      have r := se_rp (p := p) (pos := pos) C.G h1 h2 (gl_of C h3) h4 h5 (sndE a fs sc ea X h6 C).1
      exact ⟨r, st_plain r fun _ => rfl⟩
    · cases h
  | .lr tp a, fs, sc, e, X, h, C => by
    unfold chkE at h
    split at h
    · rename_i x p y p2 ea q pos
      simp only [Bool.and_eq_true, decide_eq_true_eq] at h
      obtain ⟨⟨⟨⟨⟨⟨⟨h1, h2⟩, h3⟩, h4⟩, h5⟩, h6⟩, h7⟩, h8⟩ := h
      cases tp with
      | false =>
        have r := se_lrL (p := p) (p2 := p2) (q := q) (pos := pos) C.G h1 h2 (gl_of C h3) (gl_of C h4) h5 h6 h7 (sndE a fs sc ea X h8 C).1
        exact ⟨r, st_plain r fun _ => rfl⟩
      | true =>
        have r := se_lrT (p := p) (p2 := p2) (q := q) (pos := pos) C.G h1 h2 (gl_of C h3) (gl_of C h4) h5 h6 h7 (sndE a fs sc ea X h8 C).1
        exact ⟨r, st_plain r fun _ => rfl⟩
    · cases h
  | .ls a, fs, sc, e, X, h, C => by
    unfold chkE at h
    split at h
    · rename_i x p y p2 ea q pos
      simp only [Bool.and_eq_true, decide_eq_true_eq] at h
      obtain ⟨⟨⟨⟨⟨⟨⟨h1, h2⟩, h3⟩, h4⟩, h5⟩, h6⟩, h7⟩, h8⟩ := h
      have r := se_ls (p := p) (p2 := p2) (q := q) (pos := pos) C.G h1 h2 (gl_of C h3) (gl_of C h4) h5 h6 h7 (sndE a fs sc ea X h8 C).1
      exact ⟨r, st_plain r fun _ => rfl⟩
    · cases h
  | .ss a, fs, sc, e, X, h, C => by
    unfold chkE at h
    split at h
    · rename_i x p y p2 ea q pos
      simp only [Bool.and_eq_true, decide_eq_true_eq] at h
      obtain ⟨⟨⟨⟨⟨⟨⟨h1, h2⟩, h3⟩, h4⟩, h5⟩, h6⟩, h7⟩, h8⟩ := h
      have r := se_ss (p := p) (p2 := p2) (q := q) (pos := pos) C.G h1 h2 (gl_of C h3) (gl_of C h4) h5 h6 h7 (sndE a fs sc ea X h8 C).1
      exact ⟨r, st_plain r fun _ => rfl⟩
    · cases h
  | .dix ks vs x, fs, sc, e, X, h, C => by
    unfold chkE at h
    split at h
    · rename_i keys values p ei pos
      simp only [Bool.and_eq_true, decide_eq_true_eq, Bool.not_eq_true'] at h
      obtain ⟨⟨⟨⟨⟨⟨⟨h1, h2⟩, h3⟩, h4⟩, h5⟩, h6⟩, h7⟩, h8⟩ := h
      have q := sndEs vs fs sc values X h7 C
      obtain ⟨k1, k2⟩ := keys_of h1
      have hvl : values.length = vs.len := chkEs_len h7
      have r := se_dix (p := p) (pos := pos) C.G.hu (q.pr h5 p ks keys h1 h4) k1 (by rw [k2, hvl, h4]) (by rintro rfl; cases ks with | nil => cases h2 | cons _ _ => cases k2) (by rw [k2]; exact h3) h3 (fun ρ τ ds τ' e => by rw [evs_lens e, h4]) (sndE x fs sc ei X h8 C).1 (nosl_of h6)
      exact ⟨r, st_plain r fun _ => rfl⟩
    · cases h
  | .cix c x, fs, sc, e, X, h, C => by
    unfold chkE at h
    split at h
    · rename_i y p ei pos
      simp only [Bool.and_eq_true, decide_eq_true_eq] at h
      obtain ⟨⟨⟨⟨h1, h2⟩, h3⟩, h4⟩, h5⟩ := h
      have r := se_cix (p := p) (pos := pos) C.G (gl_of C h1) h2 (dbg_of h3) (sndE x fs sc ei X h5 C).1 (plainIx_of h4)
      exact ⟨r, st_plain r fun _ => rfl⟩
    · cases h
  | .isN n a, fs, sc, e, X, h, C => by
    unfold chkE at h
    split at h
    · rename_i ea op j p pos
      simp only [Bool.and_eq_true, decide_eq_true_eq] at h
      obtain ⟨rfl, h2⟩ := h
      have ha := (sndE a fs sc ea X h2 C).1
      cases n with
      | false => exact ⟨se_isN ha, st_isN ha⟩
      | true => exact ⟨se_notN ha, st_notN ha⟩
    · cases h
  | .isB n b a, fs, sc, e, X, h, C => by
    unfold chkE at h
    split at h
    · rename_i ea op c j p pos
      simp only [Bool.and_eq_true, decide_eq_true_eq] at h
      obtain ⟨⟨rfl, rfl⟩, h2⟩ := h
      have ha := (sndE a fs sc ea X h2 C).1
      cases n with
      | false => exact ⟨se_isB ha, st_isB ha⟩
      | true => exact ⟨se_notB ha, st_notB ha⟩
    · cases h
  | .nt a, fs, sc, e, X, h, C => by
    unfold chkE at h
    split at h
    · rename_i ea pos
      obtain ⟨ha, hb⟩ := sndE a fs sc ea X h C
      exact ⟨se_nt ha, st_nt hb⟩
    · cases h
  | .ands es, fs, sc, e, X, h, C => by
    unfold chkE at h
    split at h
    · rename_i l pos
      simp only [Bool.and_eq_true, Bool.not_eq_true'] at h
      obtain ⟨⟨h1, h2⟩, h3⟩ := h
      have p := sndEs es fs sc l X h3 C
      have hn := not_nil p.len h2
      exact ⟨p.ba h1 pos hn, st_ands (p.wa hn)⟩
    · cases h
  | .ors es, fs, sc, e, X, h, C => by
    unfold chkE at h
    split at h
    · rename_i l pos
      simp only [Bool.and_eq_true, Bool.not_eq_true'] at h
      obtain ⟨⟨h1, h2⟩, h3⟩ := h
      have p := sndEs es fs sc l X h3 C
      have hn := not_nil p.len h2
      exact ⟨p.bo h1 pos hn, st_ors (p.wo hn)⟩
    · cases h
  | .ite t a b, fs, sc, e, X, h, C => by
    unfold chkE at h
    split at h
    · rename_i et ea eb pos
      simp only [Bool.and_eq_true, Bool.not_eq_true'] at h
      obtain ⟨⟨⟨⟨h1, h2⟩, h3⟩, h4⟩, h5⟩ := h
      have ht := sndE t fs sc et X h3 C
      have ha := sndE a fs sc ea X h4 C
      have hb := sndE b fs sc eb X h5 C
      exact ⟨se_ite ht.2 ha.1 hb.1 h1 h2, st_ite ht.2 ha.2 hb.2⟩
    · cases h
  | .tup es, fs, sc, e, X, h, C => by
    unfold chkE at h
    split at h
    · rename_i l n pos
      simp only [Bool.and_eq_true] at h
      have p := se_tup (n := n) (pos := pos) (sndEs es fs sc l X h.2 C).sa h.1
      exact ⟨p, st_plain p fun _ => rfl⟩
    · cases h
  | .lst es, fs, sc, e, X, h, C => by
    unfold chkE at h
    split at h
    · rename_i l pos
      simp only [Bool.and_eq_true] at h
      have p := se_lst (pos := pos) (sndEs es fs sc l X h.2 C).sa h.1
      exact ⟨p, st_plain p fun _ => rfl⟩
    · cases h
  | .ix a i, fs, sc, e, X, h, C => by
    unfold chkE at h
    split at h
    · rename_i ea ei pos
      simp only [Bool.and_eq_true] at h
      have p := se_ix (pos := pos) (plainIx_of h.1.1) (sndE a fs sc ea X h.1.2 C).1 (sndE i fs sc ei X h.2 C).1
      exact ⟨p, st_plain p fun _ => rfl⟩
    · cases h
  | .rv a, fs, sc, e, X, h, C => by
    unfold chkE at h
    split at h
    · rename_i ea i j p1 p2 p3 pos
      simp only [Bool.and_eq_true, decide_eq_true_eq] at h
      obtain ⟨rfl, h2⟩ := h
      have r := se_rv (j := j) (p1 := p1) (p2 := p2) (p3 := p3) (pos := pos) (sndE a fs sc ea X h2 C).1
      exact ⟨r, st_plain r fun _ => rfl⟩
    · cases h
  | .sl a lo hi, fs, sc, e, X, h, C => by
    unfold chkE at h
    split at h
    · rename_i ea l u p2 pos
      simp only [Bool.and_eq_true] at h
      obtain ⟨⟨h1, h2⟩, h3⟩ := h
      have ha := (sndE a fs sc ea X h1 C).1
      have hl : SO (k := k) (g := g) (X := X) l lo := by
        cases l with
        | none => rw [isNon_eq h2]; exact so_none
        | some x =>
          simp only [Bool.and_eq_true, Bool.not_eq_true'] at h2
          exact so_some (by intro z; rw [z] at h2; cases h2.1) (sndE lo fs sc x X h2.2 C).1
      have hh : SO (k := k) (g := g) (X := X) u hi := by
        cases u with
        | none => rw [isNon_eq h3]; exact so_none
        | some x =>
          simp only [Bool.and_eq_true, Bool.not_eq_true'] at h3
          exact so_some (by intro z; rw [z] at h3; cases h3.1) (sndE hi fs sc x X h3.2 C).1
      have p := se_sl (p2 := p2) (pos := pos) ha hl hh
      exact ⟨p, st_plain p fun _ => rfl⟩
    · cases h
  | .call f es, fs, sc, e, X, h, C => by
    unfold chkE at h
    split at h
    · rename_i x p l pos
      simp only [Bool.and_eq_true, decide_eq_true_eq] at h
      obtain ⟨⟨⟨⟨h1, h2⟩, h3⟩, h4⟩, h5⟩ := h
      have q := sndEs es fs sc l X h5 C
      have r : SE k g X (.Call (.Name x p) l [] pos) (.call f es) := by
        cases l with
        | nil =>
          have e0 : es = .nil := by
            have := q.len
            cases es with
            | nil => rfl
            | cons _ _ => cases this
          rw [e0]
          exact se_call0 C.G (gl_of C h1) h2 (dbg_of h3)
        | cons e es' => exact se_call C.G (gl_of C h1) h2 (dbg_of h3) q.st q.sa h4
      exact ⟨r, st_plain r fun _ => rfl⟩
    · cases h
  | .bi b es, fs, sc, e, X, h, C => by
    unfold chkE at h
    split at h
    · rename_i x p ex y p2 pos
      split at h
      · rename_i ty hty
        simp only [Bool.and_eq_true, decide_eq_true_eq] at h
        obtain ⟨⟨⟨⟨⟨⟨⟨⟨⟨h1, h2⟩, h3⟩, h4⟩, h5⟩, h6⟩, h7⟩, h8⟩, h9⟩, h10⟩ := h
        split at h10
        · rename_i m
          have r := se_isi (p := p) (p2 := p2) (pos := pos) hty C.G (gl_of C h3) h2 h1 (gl_of C h5) h4 h6 h7 (dbg_of h8) h9 (sndE m fs sc ex X h10 C).1
          exact ⟨r, st_plain r fun _ => rfl⟩
        · cases h10
      · simp only [Bool.and_eq_true, Bool.not_eq_true'] at h
        obtain ⟨⟨⟨⟨h1, h2⟩, h3⟩, h4⟩, h5⟩ := h
        have q := sndEs es fs sc _ X h5 C
        have r := se_biK (p := p) (pos := pos) C h1 h2 h3 q.st (not_nil q.len h4) q.sa
        exact ⟨r, st_plain r fun _ => rfl⟩
    · rename_i x p l pos _
      simp only [Bool.and_eq_true, Bool.not_eq_true'] at h
      obtain ⟨⟨⟨⟨h1, h2⟩, h3⟩, h4⟩, h5⟩ := h
      have q := sndEs es fs sc _ X h5 C
      have r := se_biK (p := p) (pos := pos) C h1 h2 h3 q.st (not_nil q.len h4) q.sa
      exact ⟨r, st_plain r fun _ => rfl⟩
    · cases h
  | .me m a es, fs, sc, e, X, h, C => by
    unfold chkE at h
    split at h
    · rename_i o nm ap ex cp
      split at h
      · simp only [Bool.and_eq_true, decide_eq_true_eq] at h
        obtain ⟨⟨⟨⟨⟨rfl, h2⟩, h3⟩, h4⟩, h5⟩, h6⟩ := h
        split at h6
        · rename_i m'
          have r := se_index (ap := ap) (cp := cp) C.G.hu (sndE a fs sc o X h5 C).1 (base_of h2) h3 (sndE m' fs sc ex X h6 C).1 h4
          exact ⟨r, st_plain r fun _ => rfl⟩
        · cases h6
      · simp only [Bool.and_eq_true, decide_eq_true_eq] at h
        obtain ⟨⟨⟨⟨⟨rfl, h2⟩, h3⟩, h4⟩, h5⟩, h6⟩ := h
        split at h6
        · rename_i m'
          have r := se_join (ap := ap) (cp := cp) (sndE a fs sc o X h5 C).1 (base_of h2) h3 (sndE m' fs sc ex X h6 C).1 h4
          exact ⟨r, st_plain r fun _ => rfl⟩
        · cases h6
      · simp only [Bool.and_eq_true, decide_eq_true_eq] at h
        obtain ⟨⟨⟨⟨⟨rfl, h2⟩, h3⟩, h4⟩, h5⟩, h6⟩ := h
        split at h6
        · rename_i m'
          have r := se_count (ap := ap) (cp := cp) (sndE a fs sc o X h5 C).1 (base_of h2) h3 (sndE m' fs sc ex X h6 C).1 h4
          exact ⟨r, st_plain r fun _ => rfl⟩
        · cases h6
    · cases h
  | .lc tg it c elt, fs, sc, e, X, h, C => by
    unfold chkE at h
    split at h
    · rename_i eelt tgE itE ifs scope pos
      simp only [Bool.and_eq_true, decide_eq_true_eq, Bool.not_eq_true'] at h
      obtain ⟨⟨⟨⟨⟨⟨h1, h2⟩, h3⟩, h4⟩, h5⟩, h6⟩, h7⟩ := h
      have hi := (sndI it fs sc tgE itE X h1 C).2
      have hc : (ifs = [] ∧ c = .bl true) ∨ ∃ e, ifs = [e] ∧ ∀ Y, CXt k g tb lv N (some scope) (relS scope sc) Y → ST k g Y e c := by
        split at h7
        · exact .inl ⟨rfl, isTrueC_eq h7⟩
        · rename_i x
          exact .inr ⟨x, rfl, fun Y CY => (sndE c (some scope) (relS scope sc) x Y h7 CY).2⟩
        · cases h7
      have r := se_lc (pos := pos) C.G (slc_mk C hi h2 h3 h4 h5 (fun Y CY => (sndE elt (some scope) (relS scope sc) eelt Y h6 CY).1) hc)
      exact ⟨r, st_plain r fun _ => rfl⟩
    · cases h
theorem sndEs : ∀ (ms : Es) (fs : Fs) (sc : Scope) (l : List Expr) (X : Cx), chkEs tb N fs sc ms l = true → CXt k g tb lv N fs sc X → SEs k g X l ms
  | .nil, fs, sc, l, X, h, C => by
    unfold chkEs at h
    split at h
    · exact ⟨sa_nil, rfl, rfl, fun _ pos ks keys hk hl => (by
        cases ks with
        | nil =>
          unfold chkKs at hk
          split at hk
          · exact spr_nil
          · cases hk
        | cons _ _ => cases hl), fun _ _ h => absurd rfl h, fun _ _ h => absurd rfl h, fun h => absurd rfl h, fun h => absurd rfl h⟩
    · cases h
  | .cons m ms, fs, sc, l, X, h, C => by
    unfold chkEs at h
    split at h
    · rename_i e es
      simp only [Bool.and_eq_true] at h
      obtain ⟨⟨h1, h2⟩, h3⟩ := h
      obtain ⟨he, ht⟩ := sndE m fs sc e X h2 C
      have q := sndEs ms fs sc es X h3 C
      refine ⟨sa_cons h1 he q.sa, by rw [List.all_cons, h1, q.st]; rfl, rfl, fun hp pos ks keys hk hl => (by
        rw [Es.noPk, Bool.and_eq_true] at hp
        have hp1 : m.isPk = false := by simpa using hp.1
        cases ks with
        | nil => cases hl
        | cons s ks =>
          unfold chkKs at hk
          split at hk
          · rw [Bool.and_eq_true, decide_eq_true_eq] at hk
            obtain ⟨rfl, hk⟩ := hk
            exact spr_cons he hp1 (q.pr hp.2 pos ks _ hk (by simpa [Es.len] using hl))
          · cases hk), fun hp pos _ => ?_, fun hp pos _ => ?_, fun _ => ?_, fun _ => ?_⟩
      · rw [Es.noPk, Bool.and_eq_true] at hp
        have hp1 : m.isPk = false := by simpa using hp.1
        cases es with
        | nil =>
          cases ms with
          | nil => exact se_and1 he hp1
          | cons _ _ => have := q.len; cases this
        | cons e2 es2 =>
          cases ms with
          | nil => have := q.len; cases this
          | cons m2 ms2 => exact se_ands he hp1 (q.ba hp.2 pos (by intro z; cases z))
      · rw [Es.noPk, Bool.and_eq_true] at hp
        have hp1 : m.isPk = false := by simpa using hp.1
        cases es with
        | nil =>
          cases ms with
          | nil => exact se_or1 he hp1
          | cons _ _ => have := q.len; cases this
        | cons e2 es2 =>
          cases ms with
          | nil => have := q.len; cases this
          | cons m2 ms2 => exact se_ors he hp1 (q.bo hp.2 pos (by intro z; cases z))
      · cases es with
        | nil =>
          cases ms with
          | nil => exact sw_and1 ht
          | cons _ _ => have := q.len; cases this
        | cons e2 es2 =>
          cases ms with
          | nil => have := q.len; cases this
          | cons m2 ms2 => exact sw_and ht (q.wa (by intro z; cases z))
      · cases es with
        | nil =>
          cases ms with
          | nil => exact sw_or1 ht
          | cons _ _ => have := q.len; cases this
        | cons e2 es2 =>
          cases ms with
          | nil => have := q.len; cases this
          | cons m2 ms2 => exact sw_or ht (q.wo (by intro z; cases z))
    · cases h
theorem sndI : ∀ (it : Ir) (fs : Fs) (sc : Scope) (tg e : Expr) (X : Cx), chkI tb N fs sc tg it e = true → CXt k g tb lv N fs sc X → (it.pkS = false → SI k g X tg e it) ∧ SIE k g X tg e it
  | .rng1 a, fs, sc, tg, e, X, h, C => by
    unfold chkI at h
    split at h
    · rename_i x p ea pos
      simp only [Bool.and_eq_true, decide_eq_true_eq] at h
      obtain ⟨⟨⟨⟨rfl, h2⟩, h3⟩, h4⟩, h5⟩ := h
      exact both_i (si_rng1 C.G (gl_of C h3) h2 h4 (sndE a fs sc ea X h5 C).1)
    · cases h
  | .rng2 a b, fs, sc, tg, e, X, h, C => by
    unfold chkI at h
    split at h
    · rename_i x p ea eb pos
      simp only [Bool.and_eq_true, decide_eq_true_eq] at h
      obtain ⟨⟨⟨⟨⟨⟨rfl, h2⟩, h3⟩, h4⟩, h5⟩, h6⟩, h7⟩ := h
      exact both_i (si_rng2 C.G (gl_of C h3) h2 h4 h5 (sndE a fs sc ea X h6 C).1 (sndE b fs sc eb X h7 C).1)
    · cases h
  | .rngC a b c, fs, sc, tg, e, X, h, C => by
    unfold chkI at h
    split at h
    · rename_i x p ea eb ec pos
      simp only [Bool.and_eq_true, decide_eq_true_eq] at h
      obtain ⟨⟨⟨⟨⟨⟨⟨rfl, h2⟩, h3⟩, h4⟩, h5⟩, h6⟩, h7⟩, h8⟩ := h
      have ha := (sndE a fs sc ea X h6 C).1
      have hb := (sndE b fs sc eb X h7 C).1
      split at h8
      · cases of_decide_eq_true h8
        exact both_i (si_rngC C.G (gl_of C h3) h2 h4 h5 rfl ha hb pe_int)
      · cases of_decide_eq_true h8
        refine both_i (si_rngC C.G (gl_of C h3) h2 h4 h5 rfl ha hb ⟨fun pins s σ H Q I hw => ?_⟩)
        exact (pe_un un_neg pe_int).run pins s σ H Q I ⟨_, rfl, hw⟩
      · cases h8
    · cases h
  | .seq a, fs, sc, tg, e, X, h, C => by
    unfold chkI at h
    simp only [Bool.and_eq_true, Bool.not_eq_true'] at h
    exact ⟨fun hp => si_seq (sndE a fs sc e X h.2 C).1 hp (fold_of h.1), sie_seq (sndE a fs sc e X h.2 C).1 (fold_of h.1)⟩
  | .enum a, fs, sc, tg, e, X, h, C => by
    unfold chkI at h
    split at h
    · rename_i x p ea pos
      simp only [Bool.and_eq_true, decide_eq_true_eq, Bool.not_eq_true'] at h
      obtain ⟨⟨⟨⟨⟨⟨rfl, h2⟩, h3⟩, h4⟩, h5⟩, h6⟩, h7⟩ := h
      split at h7
      · exact both_i (si_enum C.G (gl_of C h3) h2 h4 (sndE a fs sc ea X h6 C).1 h5)
      · cases h7
    · cases h
  | .zip a b, fs, sc, tg, e, X, h, C => by
    unfold chkI at h
    split at h
    · rename_i x p ea eb pos
      simp only [Bool.and_eq_true, decide_eq_true_eq, Bool.not_eq_true'] at h
      obtain ⟨⟨⟨⟨⟨⟨⟨⟨⟨rfl, h2⟩, h3⟩, h4⟩, h5⟩, h6⟩, h7⟩, h8⟩, h9⟩, h10⟩ := h
      split at h10
      · exact both_i (si_zip C.G (gl_of C h3) h2 h4 h5 (sndE a fs sc ea X h8 C).1 (sndE b fs sc eb X h9 C).1 h6 h7)
      · cases h10
    · cases h
  | .rev a, fs, sc, tg, e, X, h, C => by
    unfold chkI at h
    split at h
    · rename_i x p ea pos
      simp only [Bool.and_eq_true, decide_eq_true_eq, Bool.not_eq_true'] at h
      obtain ⟨⟨⟨⟨⟨rfl, h2⟩, h3⟩, h4⟩, h5⟩, h6⟩ := h
      exact both_i (si_rev C.G (gl_of C h3) h2 h4 (sndE a fs sc ea X h6 C).1 h5)
    · cases h
end
end
end Fh
namespace Fh
open PySem L2 PyProof.Rows

def lclB (sc : Scope) (x : Str) : Bool := decide (sc.names.lookup x = some .local)
def isTupE : Expr → Bool
  | .Tuple _ _ _ => true
  | _ => false
def isLcE : Expr → Bool
  | .ListComp _ _ _ _ => true
  | _ => false
theorem sole_tup {t e : Expr} {l : Nat} {env : Env} (h : (notComp e || isTupE t && isLcE e) = true) : swapsWithSole [t] e l env = pure false := by
  rw [Bool.or_eq_true] at h
  rcases h with h | h
  · exact sole_no h l env
  · rw [Bool.and_eq_true] at h
    cases t <;> first | (cases h.1; done) | skip
    cases e <;> first | (cases h.2; done) | skip
    rfl
section
variable (tb : Tb) (N : List Str) (sc : Scope)
/-- the value of a store: a comprehension may store by itself -/
def stoB (x : Str) (p : Pos) (e : Expr) : Bool := match e with
  | .ListComp _ _ scope pos => !lcStores sc scope x p pos || lclB sc x
  | .SetComp _ _ _ _ => false
  | .DictComp _ _ _ _ _ => false
  | _ => true
mutual
def chkS : S → Stmt → Bool
  | .set i m, st => match st with
    | .Assign [.Name x p] e _ => decide (N[i]? = some x) && locB none sc x && !m.isPk && stoB sc x p e && chkE tb N none sc m e
    | _ => false
  | .own i m, st => match st with
    | .Assign [.Name x p] e _ => decide (N[i]? = some x) && locB none sc x && m.isFr && stoB sc x p e && chkE tb N none sc m e
    | _ => false
  | .unp tg m, st => match st with
    | .Assign [tgE] e _ => chkG none N sc tg tgE && !m.isPk && nst tgE && (notComp e || isTupE tgE && isLcE e) && (notTup e || (match tgE, e with | .Tuple ts _ _, .Tuple vs _ _ => decide (swp sc ts vs = some none) | _, _ => false)) && chkE tb N none sc m e
    | _ => false
  | .par2 i j a b, st => match st with
    | .Assign [.Tuple [.Name x px, .Name y py] _ _] (.Tuple [ea, eb] _ _) _ => decide (N[i]? = some x) && decide (N[j]? = some y) && decide (i ≠ j) && lclB sc x && lclB sc y && decide (swp sc [.Name x px, .Name y py] [ea, eb] = some (some [x, y])) && nst ea && nst eb && !a.isPk && !b.isPk && chkE tb N none sc a ea && chkE tb N none sc b eb
    | _ => false
  | .par3 i j l a b c, st => match st with
    | .Assign [.Tuple [.Name x px, .Name y py, .Name z pz] _ _] (.Tuple [ea, eb, ec] _ _) _ => decide (N[i]? = some x) && decide (N[j]? = some y) && decide (N[l]? = some z) && decide (i ≠ j) && decide (i ≠ l) && decide (j ≠ l) && lclB sc x && lclB sc y && lclB sc z &&
        decide (swp sc [.Name x px, .Name y py, .Name z pz] [ea, eb, ec] = some (some [x, y, z])) && nst ea && nst eb && nst ec && !a.isPk && !b.isPk && !c.isPk && chkE tb N none sc a ea && chkE tb N none sc b eb && chkE tb N none sc c ec
    | _ => false
  | .stx i k m, st => match st with
    | .Assign [.Subscript (.Name x _) ke _] e _ => varB N sc i x && plainIxB ke && nst ke && notComp e && !m.isPk && chkE tb N none sc k ke && chkE tb N none sc m e
    | _ => false
  | .app i m, st => match st with
    | .Expr (.Call (.Attribute (.Name x _) nm ap) [e] [] cp) _ => decide (nm = "append") && (ap.endLine == cp.line) && varB N sc i x && nst e && !m.isPk && chkE tb N none sc m e
    | _ => false
  | .pop i, st => match st with
    | .Expr (.Call (.Attribute (.Name x _) nm ap) [] [] cp) _ => decide (nm = "pop") && (ap.endLine == cp.line) && varB N sc i x
    | _ => false
  | .setPop j i, st => match st with
    | .Assign [.Name y _] (.Call (.Attribute (.Name x _) nm ap) [] [] cp) _ => decide (nm = "pop") && (ap.endLine == cp.line) && varB N sc i x && decide (N[j]? = some y) && locB none sc y
    | _ => false
  | .popAdd j i k, st => match st with
    | .Assign [.Name y _] (.BinOp (.Name y2 _) .Add (.Subscript (.Call (.Attribute (.Name x _) nm ap) [] [] cp) (.Constant (.int k2) _ _) _) _) _ => decide (nm = "pop") && (ap.endLine == cp.line) && varB N sc i x && varB N sc j y && decide (y2 = y) && decide (k2 = k) && locB none sc y
    | _ => false
  | .aug i o m, st => match st with
    | .AugAssign (.Name x _) op e _ => decide ((op = .Add ∧ o = .add) ∨ (op = .Sub ∧ o = .sub)) && decide (N[i]? = some x) && locB none sc x && chkE tb N none sc m e
    | _ => false
  | .dnew i n, st => match st with
    | .Assign [.Name x _] (.Dict [] [] _) _ => decide (n = 0 ∨ KB tb.kl n) && decide (N[i]? = some x) && locB none sc x
    | _ => false
  | .ddis i ks vs, st => match st with
    | .Assign [.Name x _] (.Dict keys values _) _ => decide (N[i]? = some x) && locB none sc x && chkKs ks keys && !ks.isEmpty && decide (ks.length ≤ 15) && decide (vs.len = ks.length) && vs.noPk && chkEs tb N none sc vs values
    | _ => false
  | .dd1 i n k m, st => match st with
    | .Assign [.Name x _] (.Dict [some ke] [e] _) _ => decide (n = 0 ∨ KB tb.kl n) && decide (N[i]? = some x) && locB none sc x && !m.isPk && chkE tb N none sc k ke && chkE tb N none sc m e
    | _ => false
  | .dcmp i n tg it c k m, st => match st with
    | .Assign [.Name x _] (.DictComp kx vx [⟨tgE, itE, ifs, 0⟩] scope _) _ => decide (n = 0 ∨ KB tb.kl n) && decide (N[i]? = some x) && locB none sc x && chkI tb N none sc tgE it itE && blkC N sc scope (ownOf tg tgE) && decide ((ownOf tg tgE).map (·.2) = tg.slots) && chkG (some scope) N (relS scope sc) tg tgE &&
        !k.isPk && !m.isPk && chkE tb N (some scope) (relS scope sc) k kx && chkE tb N (some scope) (relS scope sc) m vx && (match ifs with | [] => c.isTrueC | [x] => chkE tb N (some scope) (relS scope sc) c x | _ => false)
    | _ => false
  | .dst i k m, st => match st with
    | .Assign [.Subscript (.Name x _) ke _] e _ => varB N sc i x && notComp e && !m.isPk && chkE tb N none sc k ke && chkE tb N none sc m e
    | _ => false
  | .die, _ => true
  | .expr m, st => match st with
    | .Expr e _ => notComp e && chkE tb N none sc m e
    | _ => false
  | .ret m, st => match st with
    | .Return (some e) _ => !m.isPk && chkE tb N none sc m e
    | _ => false
  | .retN, st => match st with
    | .Return none _ => true
    | _ => false
  | .ife t a b, st => match st with
    | .If et sa sb _ => chkE tb N none sc t et && chkSs a sa && chkSs b sb
    | _ => false
  | .whl t b, st => match st with
    | .While et sb [] _ => chkE tb N none sc t et && chkSs b sb
    | _ => false
  | .fr tg it b, st => match st with
    | .For tgE itE sb [] _ => chkG none N sc tg tgE && (!it.pkS && chkI tb N none sc tgE it itE) && chkSs b sb
    | _ => false
  | .brk, st => match st with
    | .Break _ => true
    | _ => false
  | .cont, st => match st with
    | .Continue _ => true
    | _ => false
  | .pass, st => match st with
    | .Pass _ => true
    | _ => false
def chkSs : Ss → List Stmt → Bool
  | .nil, l => match l with
    | [] => true
    | _ => false
  | .cons s r, l => match l with
    | st :: sts => chkS s st && chkSs r sts
    | [] => false
  | .frz _ r, l => chkSs r l
end
end

section
variable {T : Type} {k : Tk T} {g : Glob T} {tb : Tb} {lv : Nat} {N : List Str}
theorem lcl_of {fs : Fs} {sc : Scope} {x : Str} {X : Cx} (C : CXt k g tb lv N fs sc X) (h : lclB sc x = true) : X.env.scope.names.lookup x = some .local := by
  rw [C.hs]
  exact of_decide_eq_true h
/-- a comprehension's parts out of its check -/
theorem lc_parts {tg : Tg} {it : Ir} {c elt : E} {fs : Fs} {sc : Scope} {eelt : Expr} {gs : List Comprehension} {scope : Scope} {pos : Pos} {X : Cx} (h : chkE tb N fs sc (.lc tg it c elt) (.ListComp eelt gs scope pos) = true) (C : CXt k g tb lv N fs sc X) :
    ∃ tgE itE ifs, gs = [⟨tgE, itE, ifs, 0⟩] ∧ SLC k g X eelt tgE itE ifs scope (ownOf tg tgE) tg it c elt := by
  unfold chkE at h
  split at h
  · rename_i eelt' tgE itE ifs scope' pos' he
    cases he
    simp only [Bool.and_eq_true, decide_eq_true_eq, Bool.not_eq_true'] at h
    obtain ⟨⟨⟨⟨⟨⟨h1, h2⟩, h3⟩, h4⟩, h5⟩, h6⟩, h7⟩ := h
    refine ⟨tgE, itE, ifs, rfl, slc_mk C (sndI it fs sc tgE itE X h1 C).2 h2 h3 h4 h5 (fun Y CY => (sndE elt (some scope) (relS scope sc) eelt Y h6 CY).1) ?_⟩
    split at h7
    · exact .inl ⟨rfl, isTrueC_eq h7⟩
    · rename_i x
      exact .inr ⟨x, rfl, fun Y CY => (sndE c (some scope) (relS scope sc) x Y h7 CY).2⟩
    · cases h7
  · cases h
theorem swaps_not_lc {e : Expr} {sc : Scope} {x : Str} {p : Pos} {l : Nat} {env : Env} (hs : env.scope = sc) (hk : sc.kind = .function) (h : stoB sc x p e = true) : (swapsWith e (some (.Name x p)) l env = pure false) ∨ (∃ elt gs scope pos, e = .ListComp elt gs scope pos ∧ lclB sc x = true ∧ swapsWith e (some (.Name x p)) l env = pure true) := by
  cases e <;> first | exact .inl rfl | skip
  · rename_i elt gs scope pos
    have e1 := swaps_lc (elt := elt) (gs := gs) (scope := scope) (pos := pos) (p := p) (t := x) (l := l) hs hk
    rw [stoB] at h
    cases hl : lcStores sc scope x p pos with
    | false => rw [hl] at e1; exact .inl e1
    | true =>
      rw [hl] at e1 h
      exact .inr ⟨_, _, _, _, rfl, by simpa using h, e1⟩
  · cases h
  · cases h
theorem swaps_dc {kx vx : Expr} {gs : List Comprehension} {scope sc : Scope} {pos p : Pos} {t : Str} {l : Nat} {env : Env} (hs : env.scope = sc) (hk : sc.kind = .function) :
    swapsWith (.DictComp kx vx gs scope pos) (some (.Name t p)) l env = pure (lcStores sc scope t p pos) := by
  have hb : env.blockKind = .function := by unfold Env.blockKind; rw [hs, hk]; rfl
  unfold swapsWith lcStores
  simp only [hb, Env.kindOf, hs, hk, Expr.pos]
theorem stores_local {sc scope : Scope} {t : Str} {p pos : Pos} (h : lcStores sc scope t p pos = true) : lclB sc t = true := by
  unfold lcStores at h
  simp only [Bool.and_eq_true, beq_iff_eq] at h
  exact decide_eq_true h.1.1.2
theorem lc_form {m : E} {elt : Expr} {gs : List Comprehension} {scope : Scope} {pos : Pos} {fs : Fs} {sc : Scope} (h : chkE tb N fs sc m (.ListComp elt gs scope pos) = true) (hp : m.isPk = false) : ∃ tg it c e, m = .lc tg it c e := by
  cases m <;> first
    | exact ⟨_, _, _, _, rfl⟩
    | (unfold chkE at h; cases h)
mutual
theorem sndS : ∀ (s : S) (sc : Scope) (st : Stmt) (X : Cx), chkS tb N sc s st = true → CXt k g tb lv N none sc X → sc.kind = .function → PassesOwn (model X.prog X.w) X.A X.env X.xe → SS k g X st s
  | .set i m, sc, st, X, h, C, hk, hp => by
    unfold chkS at h
    split at h
    · rename_i x p e pos
      simp only [Bool.and_eq_true, decide_eq_true_eq, Bool.not_eq_true'] at h
      obtain ⟨⟨⟨⟨h1, h2⟩, h3⟩, h4⟩, h5⟩ := h
      obtain ⟨hl, hf⟩ := loc_of C h2
      rcases swaps_not_lc (l := pos.line) C.hs hk h4 with hw | ⟨elt, gs, scope, pos2, rfl, hlo, hw⟩
      · exact ss_set C.G (by rw [C.hN]; exact h1) hl hf hw (sndE m none sc e X h5 C).1 h3
      · obtain ⟨tg, it, c, e, rfl⟩ := lc_form h5 h3
        obtain ⟨tgE, itE, ifs, rfl, hS⟩ := lc_parts h5 C
        exact ss_setLc C.G (by rw [C.hN]; exact h1) (lcl_of C hlo) hw hS
    · cases h
  | .own i m, sc, st, X, h, C, hk, hp => by
    unfold chkS at h
    split at h
    · rename_i x p e pos
      simp only [Bool.and_eq_true, decide_eq_true_eq] at h
      obtain ⟨⟨⟨⟨h1, h2⟩, h3⟩, h4⟩, h5⟩ := h
      obtain ⟨hl, hf⟩ := loc_of C h2
      rcases swaps_not_lc (l := pos.line) C.hs hk h4 with hw | ⟨elt, gs, scope, pos2, rfl, hlo, hw⟩
      · exact ss_own C.G (by rw [C.hN]; exact h1) hl hf hw (sndE m none sc e X h5 C).1 h3
      · obtain ⟨tg, it, c, e, rfl⟩ := lc_form h5 (by cases m <;> first | rfl | cases h3)
        obtain ⟨tgE, itE, ifs, rfl, hS⟩ := lc_parts h5 C
        exact ss_ownLc C.G (by rw [C.hN]; exact h1) (lcl_of C hlo) hw hS
    · cases h
  | .unp tg m, sc, st, X, h, C, hk, hp => by
    unfold chkS at h
    split at h
    · rename_i tgE e pos
      simp only [Bool.and_eq_true, Bool.not_eq_true'] at h
      obtain ⟨⟨⟨⟨⟨h1, h2⟩, h3⟩, h4⟩, h5⟩, h6⟩ := h
      refine ss_unp (sndG C tg tgE h1) (sndE m none sc e X h6 C).1 h2 h3 (sole_tup h4) ?_
      rw [Bool.or_eq_true] at h5
      rcases h5 with h5 | h5
      · exact swapped_no h5
      · split at h5
        · exact swp_ok C.hs (of_decide_eq_true h5)
        · cases h5
    · cases h
  | .par2 i j a b, sc, st, X, h, C, hk, hp => by
    unfold chkS at h
    split at h
    · rename_i x px y py n p ea eb n2 p2 pos
      simp only [Bool.and_eq_true, decide_eq_true_eq, Bool.not_eq_true'] at h
      obtain ⟨⟨⟨⟨⟨⟨⟨⟨⟨⟨⟨h1, h2⟩, h3⟩, h4⟩, h5⟩, h6⟩, h7⟩, h8⟩, h9⟩, h10⟩, h11⟩, h12⟩ := h
      exact ss_par2 C.G (by rw [C.hN]; exact h1) (by rw [C.hN]; exact h2) h3 (lcl_of C h4) (lcl_of C h5) (swp_ok C.hs h6) h7 h8 (sndE a none sc ea X h11 C).1 (sndE b none sc eb X h12 C).1 h9 h10
    · cases h
  | .par3 i j l a b c, sc, st, X, h, C, hk, hp => by
    unfold chkS at h
    split at h
    · rename_i x px y py z pz n p ea eb ec n2 p2 pos
      simp only [Bool.and_eq_true, decide_eq_true_eq, Bool.not_eq_true'] at h
      obtain ⟨⟨⟨⟨⟨⟨⟨⟨⟨⟨⟨⟨⟨⟨⟨⟨⟨⟨h1, h2⟩, h3⟩, h4⟩, h5⟩, h6⟩, h7⟩, h8⟩, h9⟩, h10⟩, h11⟩, h12⟩, h13⟩, h14⟩, h15⟩, h16⟩, h17⟩, h18⟩, h19⟩ := h
      exact ss_par3 C.G (by rw [C.hN]; exact h1) (by rw [C.hN]; exact h2) (by rw [C.hN]; exact h3) h4 h5 h6 (lcl_of C h7) (lcl_of C h8) (lcl_of C h9) (swp_ok C.hs h10) h11 h12 h13 (sndE a none sc ea X h17 C).1 (sndE b none sc eb X h18 C).1 (sndE c none sc ec X h19 C).1 h14 h15 h16
    · cases h
  | .stx i kk m, sc, st, X, h, C, hk, hp => by
    unfold chkS at h
    split at h
    · rename_i x p ke tp e pos
      simp only [Bool.and_eq_true, Bool.not_eq_true'] at h
      obtain ⟨⟨⟨⟨⟨⟨h1, h2⟩, h3⟩, h4⟩, h5⟩, h6⟩, h7⟩ := h
      refine ss_stx (pv_of C h1) (sndE kk none sc ke X h6 C).1 (sndE m none sc e X h7 C).1 h5 h3 h4 fun v => ?_
      cases ke <;> first | rfl | cases h2
    · cases h
  | .app i m, sc, st, X, h, C, hk, hp => by
    unfold chkS at h
    split at h
    · simp only [Bool.and_eq_true, decide_eq_true_eq, Bool.not_eq_true'] at h
      obtain ⟨⟨⟨⟨⟨rfl, h2⟩, h3⟩, h4⟩, h5⟩, h6⟩ := h
      exact ss_app (pv_of C h3) h4 (sndE m none sc _ X h6 C).1 h5 h2
    · cases h
  | .pop i, sc, st, X, h, C, hk, hp => by
    unfold chkS at h
    split at h
    · simp only [Bool.and_eq_true, decide_eq_true_eq] at h
      obtain ⟨⟨rfl, h2⟩, h3⟩ := h
      exact ss_pop (pv_of C h3) h2
    · cases h
  | .setPop j i, sc, st, X, h, C, hk, hp => by
    unfold chkS at h
    split at h
    · simp only [Bool.and_eq_true, decide_eq_true_eq] at h
      obtain ⟨⟨⟨⟨rfl, h2⟩, h3⟩, h4⟩, h5⟩ := h
      obtain ⟨hl, hf⟩ := loc_of C h5
      exact ss_setPop C.G (pv_of C h3) h2 (by rw [C.hN]; exact h4) hl hf
    · cases h
  | .popAdd j i k, sc, st, X, h, C, hk, hp => by
    unfold chkS at h
    split at h
    · simp only [Bool.and_eq_true, decide_eq_true_eq] at h
      obtain ⟨⟨⟨⟨⟨⟨rfl, h2⟩, h3⟩, h4⟩, rfl⟩, rfl⟩, h5⟩ := h
      obtain ⟨hl, hf⟩ := loc_of C h5
      exact ss_popAdd C.G (pv_of C h3) (pv_of C h4) h2 (by rw [C.hN]; unfold varB at h4; simp only [Bool.and_eq_true, decide_eq_true_eq] at h4; exact h4.1.1.1) hl hf (plainIx_of rfl)
    · cases h
  | .aug i o m, sc, st, X, h, C, hk, hp => by
    unfold chkS at h
    split at h
    · simp only [Bool.and_eq_true, decide_eq_true_eq] at h
      obtain ⟨⟨⟨h1, h3⟩, h4⟩, h5⟩ := h
      obtain ⟨hl, hf⟩ := loc_of C h4
      rcases h1 with ⟨rfl, rfl⟩ | ⟨rfl, rfl⟩
      · exact ss_augA C.G (by rw [C.hN]; exact h3) hl hf (sndE m none sc _ X h5 C).1
      · exact ss_augS0 C.G (by rw [C.hN]; exact h3) hl hf (sndE m none sc _ X h5 C).1
    · cases h
  | .dnew i n, sc, st, X, h, C, hk, hp => by
    unfold chkS at h
    split at h
    · simp only [Bool.and_eq_true, decide_eq_true_eq] at h
      obtain ⟨⟨h1, h2⟩, h3⟩ := h
      obtain ⟨hl, hf⟩ := loc_of C h3
      exact ss_dnew C.G h1 (by rw [C.hN]; exact h2) hl hf
    · cases h
  | .ddis i ks vs, sc, st, X, h, C, hk, hp => by
    unfold chkS at h
    split at h
    · rename_i x p0 keys values p pos
      simp only [Bool.and_eq_true, decide_eq_true_eq, Bool.not_eq_true'] at h
      obtain ⟨⟨⟨⟨⟨⟨⟨g1, g2⟩, h1⟩, h2⟩, h3⟩, h4⟩, h5⟩, h7⟩ := h
      obtain ⟨hl, hf⟩ := loc_of C g2
      have q := sndEs vs none sc values X h7 C
      obtain ⟨k1, k2⟩ := keys_of h1
      have hvl : values.length = vs.len := chkEs_len h7
      exact ss_ddis C.G (by rw [C.hN]; exact g1) hl hf (q.pr h5 p ks keys h1 h4) k1 (by rw [k2, hvl, h4]) (by rintro rfl; cases ks with | nil => cases h2 | cons _ _ => cases k2) (by rw [k2]; exact h3) h3 (fun ρ τ ds τ' e => by rw [evs_lens e, h4])
    · cases h
  | .dd1 i n kk m, sc, st, X, h, C, hk, hp => by
    unfold chkS at h
    split at h
    · rename_i x p' ke e p pos
      simp only [Bool.and_eq_true, decide_eq_true_eq, Bool.not_eq_true'] at h
      obtain ⟨⟨⟨⟨⟨h0, h1⟩, h2⟩, h3⟩, h4⟩, h5⟩ := h
      obtain ⟨hl, hf⟩ := loc_of C h2
      exact ss_dd1 C.G h0 (by rw [C.hN]; exact h1) hl hf (sndE kk none sc ke X h4 C).1 (sndE m none sc e X h5 C).1 h3
    · cases h
  | .dcmp i n tg it c kk m, sc, st, X, h, C, hk, hp => by
    unfold chkS at h
    split at h
    · rename_i x py kx vx tgE itE ifs scope p pos
      simp only [Bool.and_eq_true, decide_eq_true_eq, Bool.not_eq_true'] at h
      obtain ⟨⟨⟨⟨⟨⟨⟨⟨⟨⟨⟨h1, h2⟩, h3⟩, h4⟩, h5⟩, h6⟩, h7⟩, h8⟩, h9⟩, h10⟩, h11⟩, h12⟩ := h
      obtain ⟨hl, hf⟩ := loc_of C h3
      have hc : (ifs = [] ∧ c = .bl true) ∨ ∃ e, ifs = [e] ∧ ∀ Y, CXt k g tb lv N (some scope) (relS scope sc) Y → ST k g Y e c := by
        split at h12
        · exact .inl ⟨rfl, isTrueC_eq h12⟩
        · rename_i x
          exact .inr ⟨x, rfl, fun Y CY => (sndE c (some scope) (relS scope sc) x Y h12 CY).2⟩
        · cases h12
      have hi := (sndI it none sc tgE itE X h4 C).2
      have hS : SDC k g X kx vx tgE itE ifs scope (ownOf tg tgE) tg it c kk m := ⟨slc_mk C hi h5 h6 h7 h8 (fun Y CY => (sndE kk (some scope) (relS scope sc) kx Y h10 CY).1) hc, slc_mk C hi h5 h6 h7 h9 (fun Y CY => (sndE m (some scope) (relS scope sc) vx Y h11 CY).1) hc⟩
      have e1 := swaps_dc (kx := kx) (vx := vx) (gs := [⟨tgE, itE, ifs, 0⟩]) (scope := scope) (pos := p) (p := py) (t := x) (l := pos.line) C.hs hk
      cases hst : lcStores sc scope x py p with
      | false =>
        rw [hst] at e1
        exact ss_dcmp C.G h1 (by rw [C.hN]; exact h2) hl hf e1 hS
      | true =>
        rw [hst] at e1
        exact ss_dcmpS C.G h1 (by rw [C.hN]; exact h2) (lcl_of C (stores_local hst)) e1 hS
    · cases h
  | .dst i kk m, sc, st, X, h, C, hk, hp => by
    unfold chkS at h
    split at h
    · rename_i x p ke tp e pos
      simp only [Bool.and_eq_true, Bool.not_eq_true'] at h
      obtain ⟨⟨⟨⟨h1, h4⟩, h5⟩, h6⟩, h7⟩ := h
      exact ss_dst C.G.hu (pv_of C h1) (sndE kk none sc ke X h6 C).1 (sndE m none sc e X h7 C).1 h5 h4
    · cases h
  | .die, sc, st, X, h, C, hk, hp => ss_die
  | .expr m, sc, st, X, h, C, hk, hp => by
    unfold chkS at h
    split at h
    · simp only [Bool.and_eq_true] at h
      exact ss_expr (sndE m none sc _ X h.2 C).1 h.1
    · cases h
  | .ret m, sc, st, X, h, C, hk, hp => by
    unfold chkS at h
    split at h
    · simp only [Bool.and_eq_true, Bool.not_eq_true'] at h
      exact ss_ret (sndE m none sc _ X h.2 C).1 h.1
    · cases h
  | .retN, sc, st, X, h, C, hk, hp => by
    unfold chkS at h
    split at h
    · exact ss_retN
    · cases h
  | .ife t a b, sc, st, X, h, C, hk, hp => by
    unfold chkS at h
    split at h
    · rename_i et sa sb pos
      simp only [Bool.and_eq_true] at h
      exact ss_ife (sndE t none sc et X h.1.1 C).2 (sndSs a sc sa X h.1.2 C hk hp) (sndSs b sc sb X h.2 C hk hp)
    · cases h
  | .whl t b, sc, st, X, h, C, hk, hp => by
    unfold chkS at h
    split at h
    · rename_i et sb pos
      simp only [Bool.and_eq_true] at h
      exact ss_whl hp (sndE t none sc et X h.1 C).2 (sndSs b sc sb X h.2 C hk hp)
    · cases h
  | .fr tg it b, sc, st, X, h, C, hk, hp => by
    unfold chkS at h
    split at h
    · rename_i tgE itE sb pos
      simp only [Bool.and_eq_true, Bool.not_eq_true'] at h
      exact ss_fr hp C.G.calm (sndG C tg tgE h.1.1) ((sndI it none sc tgE itE X h.1.2.2 C).1 h.1.2.1) (sndSs b sc sb X h.2 C hk hp)
    · cases h
  | .brk, sc, st, X, h, C, hk, hp => by
    unfold chkS at h
    split at h
    · exact ss_brk
    · cases h
  | .cont, sc, st, X, h, C, hk, hp => by
    unfold chkS at h
    split at h
    · exact ss_cont
    · cases h
  | .pass, sc, st, X, h, C, hk, hp => by
    unfold chkS at h
    split at h
    · exact ss_pass
    · cases h
theorem sndSs : ∀ (s : Ss) (sc : Scope) (l : List Stmt) (X : Cx), chkSs tb N sc s l = true → CXt k g tb lv N none sc X → sc.kind = .function → PassesOwn (model X.prog X.w) X.A X.env X.xe → SSs k g X l s
  | .nil, sc, l, X, h, C, hk, hp => by
    unfold chkSs at h
    split at h
    · exact sss_nil
    · cases h
  | .cons s r, sc, l, X, h, C, hk, hp => by
    unfold chkSs at h
    split at h
    · rename_i st sts
      simp only [Bool.and_eq_true] at h
      exact sss_cons (sndS s sc st X h.1 C hk hp) (sndSs r sc sts X h.2 C hk hp)
    · cases h
  | .frz i r, sc, l, X, h, C, hk, hp => by
    unfold chkSs at h
    exact sss_frz (sndSs r sc l X h C hk hp)
end

/-! ### defs -/
theorem start_ok {X : Cx} {ds : List PD} {vs : List V} {F : Fz} {H : Hp} {n : Nat} (r : RpA X.K k.tv F H vs ds) (hn : X.N.length = n) (hl : ds.length ≤ n) :
    Okk k X.K H (ds.map (fun d => some (Sl.sh d)) ++ List.replicate (n - ds.length) none) (L2.start X.N vs) F H := by
  have key : ∀ (i : Nat) (s : Sl), (ds.map (fun d => some (Sl.sh d)) ++ List.replicate (n - ds.length) none)[i]? = some (some s) → ∃ d, s = .sh d ∧ ds[i]? = some d := fun i s e => by
    by_cases h : i < ds.length
    · rw [List.getElem?_append_left (by rw [List.length_map]; exact h), List.getElem?_map, List.getElem?_eq_getElem h] at e
      cases e
      exact ⟨_, rfl, List.getElem?_eq_getElem h⟩
    · rw [List.getElem?_append_right (by rw [List.length_map]; omega), List.getElem?_replicate] at e
      split at e <;> cases e
  refine ⟨?_, fun i s e => ?_, fun i es v e ho => ?_, fun i j es fs v e _ ho => ?_⟩
  · unfold L2.start
    rw [List.length_append, List.length_append, List.length_map, List.length_map, List.length_replicate, List.length_replicate, r.length, hn]
  · obtain ⟨d, rfl, e1⟩ := key i s e
    obtain ⟨v, e2, r2⟩ := r.get e1
    refine ⟨v, ?_, r2⟩
    unfold L2.start
    have hi := (List.getElem?_eq_some_iff.mp e2).1
    rw [List.getElem?_append_left (by rw [List.length_map]; exact hi), List.getElem?_map, e2]
    rfl
  · obtain ⟨d, h, _⟩ := key i _ e; subst h; cases ho
  · obtain ⟨d, h, _⟩ := key i _ e; subst h; cases ho
/-- what the programs' tops leave of a def: where it stands -/
structure DefAt (K : PySem.W.Frag) (mg : Str → Option Value) (x : Str) (st : Stmt) (f : Addr) (fd : FuncData) (ps : List Str) : Prop where
  F : Fun K x x st f fd
  m : mg x = some (.ref f)
  b : Binds K fd ps []
end

/-- a def of the text: its statement, its slots' names, its parameters -/
structure DefT where
  st : Stmt
  N : List Str
  ps : List Str
  gx : Bool := false
section
variable {T : Type} (k : Tk T) (P : Program) (w : World) (K : PySem.W.Frag) (mg : Str → Option Value) (base : Heap)
/-- the check of a def -/
def chkD (tb : Tb) (D : DefT) (n ar : Nat) (body : Ss) : Bool :=
  decide (D.N.length = n) && decide (D.ps.length = ar) && decide (ar ≤ n) && chkSs { tb with gx := D.gx, rp := false } D.N (defScope D.st) body (defBody D.st)
/-- THE PROGRAM: what its top leaves -/
structure PgOk (p : Pg T) (tb : Tb) (ts : List DefT) (c : Nat) : Prop where
  len : p.defs.length = ts.length
  nms : tb.names.length = ts.length
  at_ : ∀ (j : Nat) (x : Str) (D : DefT), tb.names[j]? = some x → ts[j]? = some D → ∃ f fd, DefAt K mg x D.st f fd D.ps
  code : ∀ (j n ar : Nat) (body : Ss) (D : DefT), p.defs[j]? = some (.code n ar body) → ts[j]? = some D → chkD tb D n ar body = true ∧ FnScope D.N D.ps (defScope D.st)
  prim : ∀ (j : Nat) (q : List PD → T → Option (PD × T)) (D : DefT) (x : Str) (f : Addr) (fd : FuncData), p.defs[j]? = some (.prim q) → ts[j]? = some D → tb.names[j]? = some x → DefAt K mg x D.st f fd D.ps → FnOk P w K mg base CX0 c f fd D.ps (spOf k K q D.ps.length) ∧ ∀ ds τ r, q ds τ = some r → ds.length = D.ps.length
  cons : ∀ (c : Nat) (x : Str), tb.cns[c]? = some x → ∃ u v d, mg x = some u ∧ RelV v u ∧ p.cons[c]? = some d ∧ ∀ F H, Rp K k.tv F H v d
  blt : ∀ x ∈ tb.bl, mg x = none
  mf : ∀ q ∈ tb.mf, mg q.1 = some (.builtin q.2)
  dct : ∀ (c : Nat) (x : Str), tb.dcs[c]? = some x → ∃ a, mg x = some (.ref a) ∧ ∀ z d, p.dct c z = some d → ∃ v, KDct K w a z v ∧ ∀ F H, Rp K k.tv F H v d
  kl : tb.kl = k.tv.kl
  gxs : ∀ (j : Nat) (x : Str) (D : DefT) (f : Addr) (fd : FuncData), tb.names[j]? = some x → ts[j]? = some D → D.gx = true → DefAt K mg x D.st f fd D.ps → ∃ c P, k.tab P ∧ fd.code = .ref c ∧ GxR.TabB base mg c P
variable {k P w K mg base}
/-- a def by its body, its code object known -/
theorem fun_okC {x qual : Str} {st : Stmt} {f : Addr} {fd : FuncData} {N ps : List Str} {k : Nat} {sp : Sp} (F : Fun K x qual st f fd) (S : FnScope N ps (defScope st)) (len : ∀ vs H Q E, sp vs H Q E → vs.length = ps.length)
    (hbody : ∀ (cdv : Value), fd.code = cdv → ∀ (A : Around) (outer : List Env) (s : Shared) (H : Hp) (vs : List V) (Q : VK) (E : XK), Room k (A.deeper (envOfC qual (defScope st) s.heap.objs.size f cdv)) → sp vs H Q E →
      ∃ t, PSs (cxOf CX0 P w K mg base N qual (defScope st) f cdv A outer s H E).nox (defBody st) t ∧ t { nx := fun _ H' => Q .non H', rt := Q } (start N vs) H) : FnOk P w K mg base CX0 (k + 1) f fd ps sp := by
  obtain ⟨oc, od, kV, doc, pm, an, cdv, ct, osl, rfl, lk, hcd⟩ := F.ex
  refine fn_of lk hcd S len fun A outer s H vs Q E hr hsp => ?_
  obtain ⟨t, h, q⟩ := hbody cdv rfl A outer s H vs Q E hr hsp
  exact ⟨t, h.nox, q⟩
theorem spOf_none {r : List PD → T → Option (PD × T)} {n : Nat} (h : ∀ ds τ, r ds τ = none) (vs : List V) (H : Hp) (Q : VK) (E : XK) : ¬ spOf k K r n vs H Q E := by
  rintro ⟨_, F, ds, τ, d, τ', _, _, e, _⟩
  rw [h] at e
  cases e
theorem run_ok {p : Pg T} {tb : Tb} {ts : List DefT} {c : Nat} (O : PgOk k P w K mg base p tb ts c) : ∀ (n j : Nat) (x : Str) (D : DefT) (f : Addr) (fd : FuncData), tb.names[j]? = some x → ts[j]? = some D → DefAt K mg x D.st f fd D.ps →
    FnOk P w K mg base CX0 (n + c) f fd D.ps (spOf k K (run p n j) D.ps.length) ∧ ∀ ds τ r, run p n j ds τ = some r → ds.length = D.ps.length
  | 0, j, x, D, f, fd, hx, hD, A => by
    refine ⟨⟨fun vs H Q E h => absurd h (spOf_none (fun ds τ => rfl) vs H Q E), fun A' outer s H args us vs Q E _ _ _ _ h => absurd h (spOf_none (fun ds τ => rfl) vs H Q E)⟩, fun ds τ r e => by cases e⟩
  | n + 1, j, x, D, f, fd, hx, hD, A => by
    have hj : j < p.defs.length := by rw [O.len]; exact (List.getElem?_eq_some_iff.mp hD).1
    cases hp : p.defs[j] with
    | prim q =>
      have hp' : p.defs[j]? = some (.prim q) := by rw [List.getElem?_eq_getElem hj, hp]
      obtain ⟨h1, h2⟩ := O.prim j q D x f fd hp' hD hx A
      have e : run p (n + 1) j = q := by
        funext ds τ
        rw [run, hp']
      rw [e]
      exact ⟨h1.mono (by omega), h2⟩
    | code nn ar body =>
      have hp' : p.defs[j]? = some (.code nn ar body) := by rw [List.getElem?_eq_getElem hj, hp]
      obtain ⟨hc, hS⟩ := O.code j nn ar body D hp' hD
      unfold chkD at hc
      simp only [Bool.and_eq_true, decide_eq_true_eq] at hc
      obtain ⟨⟨⟨c1, c2⟩, c3⟩, c4⟩ := hc
      have er : ∀ ds τ, run p (n + 1) j ds τ = if ds.length = ar then runBody ⟨run p n, fun c => p.cons[c]?, p.dct⟩ nn body ds τ else none := fun ds τ => by rw [run, hp']
      refine ⟨?_, fun ds τ r e => by
        rw [er] at e
        split at e
        · rename_i h; rw [h, c2]
        · cases e⟩
      have e1 : n + 1 + c = (n + c) + 1 := by omega
      rw [e1]
      refine fun_okC A.F hS (fun vs H Q E h => h.1) fun cdv hcdv Ar outer s H vs Q E hr h => ?_
      obtain ⟨hl, F, ds, τ, d, τ', ra, gd, e, q⟩ := h
      rw [er] at e
      split at e
      case isFalse => cases e
      rename_i hlen
      have G : GOk k ⟨run p n, fun c => p.cons[c]?, p.dct⟩ { tb with gx := D.gx, rp := false } (n + c) (cxOf CX0 P w K mg base D.N x (defScope D.st) f cdv Ar outer s H E).nox :=
        ⟨rfl, hS.nd, hr, fun i y hy => by
          have hi : i < ts.length := by rw [← O.nms]; exact (List.getElem?_eq_some_iff.mp hy).1
          obtain ⟨f', fd', A'⟩ := O.at_ i y ts[i] hy (List.getElem?_eq_getElem hi)
          obtain ⟨h1, h2⟩ := run_ok O n i y ts[i] f' fd' hy (List.getElem?_eq_getElem hi) A'
          exact ⟨f', fd', ts[i].ps, A'.m, A'.F.kp, A'.b, h1, h2⟩, O.cons, O.blt, O.mf, O.dct, fun hgx => by
          obtain ⟨c', P', t1, t2, t3⟩ := O.gxs j x D f fd hx hD hgx A
          exact ⟨c', P', t1, hcdv.symm.trans t2, t3⟩, (fun z => by cases z), O.kl⟩
      have C : CXt k ⟨run p n, fun c => p.cons[c]?, p.dct⟩ { tb with gx := D.gx, rp := false } (n + c) D.N none (defScope D.st) (cxOf CX0 P w K mg base D.N x (defScope D.st) f cdv Ar outer s H E).nox := ⟨G, rfl, rfl, rfl⟩
      obtain ⟨t, pt, rt⟩ := (sndSs body (defScope D.st) (defBody D.st) _ c4 C hS.kind PassesOwn.never).ex
      refine ⟨t, pt, ?_⟩
      unfold runBody at e
      obtain ⟨o, e2, e3⟩ := bind2 e
      refine rt H F _ τ _ F H o _ (start_ok (X := (cxOf CX0 P w K mg base D.N x (defScope D.st) f cdv Ar outer s H E).nox) ra c1 (by omega)) (.refl _ _ _) gd e2 ?_
      cases o with
      | nx ρ' τ1 => cases e3; exact fun σ' F' H' _ l' _ g' => q .non F' H' l' g' .non
      | rt d' τ1 => cases e3; exact fun v F' H' l' g' r' => q v F' H' l' g' r'
      | bk ρ' τ1 => cases e3
      | ct ρ' τ1 => cases e3
end
end Fh
/-! a def's promise in contexts of a kind -/
namespace Fh
open PySem PySem.Spec PyProof.Rows L2
/-- a def's promise in contexts of a kind -/
structure FnOkG (G : Around → Prop) (P : Program) (w : World) (K : PySem.W.Frag) (mg : Str → Option Value) (base : Heap) (CX : CXT) (k : Nat) (f : Addr) (fd : FuncData) (ps : List Str) (sp : Sp) : Prop where
  len : ∀ vs H Q E, sp vs H Q E → vs.length = ps.length
  run : ∀ (A : Around) (outer : List Env) (s : Shared) (H : Hp) (args : Args) (us : List Value) (vs : List V) (Q : VK) (E : XK), G A → Room k A → Env0 P w K mg base A outer s H → BindsTo s fd args (ps.zip us) → Vals vs us → sp vs H Q E →
    codeAny (model P w) A (.call (.ref f) args) (CR CX outer P w H s Q E) s
theorem fnG_of {G : Around → Prop} {P : Program} {w : World} {K : PySem.W.Frag} {mg : Str → Option Value} {base : Heap} {x qual : Str} {st : Stmt} {f : Addr} {fd : FuncData} {N ps : List Str} {k : Nat} {sp : Sp} (F : Fun K x qual st f fd) (S : FnScope N ps (defScope st)) (len : ∀ vs H Q E, sp vs H Q E → vs.length = ps.length)
    (hb : ∀ (cdv : Value) (A : Around) (outer : List Env) (s : Shared) (H : Hp) (vs : List V) (Q : VK) (E : XK), G A → Room k (A.deeper (envOfC qual (defScope st) s.heap.objs.size f cdv)) → sp vs H Q E →
      ∃ t, PSs (cxOf CX0 P w K mg base N qual (defScope st) f cdv A outer s H E).nox (defBody st) t ∧ t { nx := fun _ H' => Q .non H', rt := Q } (L2.start N vs) H) : FnOkG G P w K mg base CX0 (k + 1) f fd ps sp := by
  obtain ⟨oc, od, kV, doc, pm, an, cdv, ct, osl, rfl, lk, hcd⟩ := F.ex
  refine ⟨len, fun A outer s H args us vs Q E hG hr e0 hbd rv hsp => ?_⟩
  have kin : K.In s.heap := e0.mod.kin.keeps fun b o e => (e0.bs b o e).1
  have nol : s.heap.NoLimit := e0.mod.nolimit.keeps fun b o e => (e0.bs b o e).1
  refine codeAny_call_function hr.depth (kin _ _ lk) rfl S.co S.gen rfl (PySem.W.codeRec_of kin hcd) (hbd _ _ _ _ ?_)
  refine wpAny_newFunctionEnv_cells S.kind (fun y hy => ?_) fun env he s1 inC => ?_
  · rcases S.par y.1 (List.of_mem_zip hy).1 with z | z
    · exact .inl z
    · exact .inr ⟨z, PySem.W.cellsFrom_some _ _ _ (.inl z)⟩
  · subst he
    refine ⟨nol.keeps inC.toInCall.keep, codeAny_func ?_⟩
    obtain ⟨t, pt, ht⟩ := hb cdv A outer s H vs Q E hG (hr.deeper _) hsp
    have I := inv_start (CX := CX0) (E := E) S hr.hd e0 (len _ _ _ _ hsp) rv inC
    refine wpAny_mono (pt.nox.run [] s1 (L2.start N vs) H _ I ht) (fun fl s' hs => ?_) fun _ _ z => z
    cases fl with
    | ret u =>
      obtain ⟨v, σ', H', J, r, q⟩ := hs
      exact ⟨v, H', J.os, J.bare, J.base, J.hok, r, q⟩
    | next =>
      obtain ⟨σ', H', J, q⟩ := hs
      exact ⟨.non, H', J.os, J.bare, J.base, J.hok, rfl, q⟩
    | brk =>
      obtain ⟨_, _, _, q⟩ := hs
      exact q.elim
    | cont =>
      obtain ⟨_, _, _, q⟩ := hs
      exact q.elim
theorem FnOkG.all {P : Program} {w : World} {K : PySem.W.Frag} {mg : Str → Option Value} {base : Heap} {CX : CXT} {k : Nat} {f : Addr} {fd : FuncData} {ps : List Str} {sp : Sp} (F : FnOkG (fun _ => True) P w K mg base CX k f fd ps sp) : FnOk P w K mg base CX k f fd ps sp :=
  ⟨F.len, fun A outer s H args us vs Q E hr he hb hv hs => F.run A outer s H args us vs Q E trivial hr he hb hv hs⟩
end Fh
namespace Fh
open PySem L2 PyProof.Rows

/-! ### the law's state, drawn from cells -/
/-- what is drawn: cells, and a seed that is not the one that stays -/
def Bits (ns : List Int) : Prop := ∀ z ∈ ns, Builtin.Int.intBits z ≤ 1048576
structure Good (τ : List Int × Int) : Prop where
  nn : ∀ c ∈ τ.1, 0 ≤ c
  bits : Bits τ.1
  len : τ.1.length ≤ 63
  s0 : 0 ≤ τ.2
  s1 : τ.2 < 2147483647
  s2 : τ.2 ≠ 934936168
abbrev TS := List Int × Int
abbrev TA' := {τ : TS // Good τ}
def tkA (kl : Nat) (T : List Addr) (a b : Addr) : Tk TA' where
  Z c := c = a ∨ c = b ∨ c ∈ T
  ok τ H := (a ≠ b ∧ H a = some (.lst [.ref b, .int τ.1.2]) ∧ H b = some (.lst (τ.1.1.map V.int)) ∧ 0 ≤ τ.1.2 ∧ τ.1.2 < 2 ^ 32) ∧ ∀ c ∈ T, GxR.TabG H c
  tv := ⟨.ref a, kl⟩
  stay := by
    rintro τ H H' ⟨⟨h1, h2, h3, h4⟩, h5⟩ h
    refine ⟨⟨h1, (h a (.inl rfl)).trans h2, (h b (.inr (.inl rfl))).trans h3, h4⟩, fun c hc => ?_⟩
    obtain ⟨ps, e, t⟩ := h5 c hc
    exact ⟨ps, (h c (.inr (.inr hc))).trans e, t⟩
  there := by
    rintro τ H c ⟨⟨h1, h2, h3, h4⟩, h5⟩ h
    rcases h with rfl | rfl | h
    · exact .inl ⟨_, h2⟩
    · exact .inl ⟨_, h3⟩
    · obtain ⟨ps, e, _⟩ := h5 c h
      exact .inr ⟨ps, e⟩
  tab c := c ∈ T
  tabZ := fun c h => .inr (.inr h)
  tabOk := fun τ H c h hc => h.2 c hc
  tabSt := by
    rintro τ H H' c ⟨⟨h1, h2, h3, h4⟩, h5⟩ hc ⟨t1, t2⟩
    obtain ⟨ps, e, _⟩ := h5 c hc
    have na : a ≠ c := fun z => by subst z; rw [h2] at e; cases e
    have nb : b ≠ c := fun z => by subst z; rw [h3] at e; cases e
    refine ⟨⟨h1, (t2 a na).trans h2, (t2 b nb).trans h3, h4⟩, fun d hd => ?_⟩
    by_cases z : d = c
    · subst z; exact t1
    · obtain ⟨ps', e', t'⟩ := h5 d hd
      exact ⟨ps', (t2 d z).trans e', t'⟩
def drop0 : List Int → List Int
  | [] => []
  | x :: r => if x = 0 then drop0 r else x :: r
def drawA (many : Int) (τ : TS) : Int × TS :=
  match drop0 τ.1 with
  | [] => ((((τ.2 * 48271 + 12345).fmod 2147483647).fdiv 64).fmod many, ([], (τ.2 * 48271 + 12345).fmod 2147483647))
  | v :: r => (v.fmod many, (v.fdiv many :: r, τ.2))
theorem drop0_sub : ∀ (l : List Int), (∀ x ∈ drop0 l, x ∈ l) ∧ (drop0 l).length ≤ l.length
  | [] => ⟨fun x h => h, Nat.le_refl _⟩
  | x :: r => by
    have ih := drop0_sub r
    unfold drop0
    split
    · exact ⟨fun y h => List.mem_cons_of_mem _ (ih.1 y h), by rw [List.length_cons]; omega⟩
    · exact ⟨fun y h => h, Nat.le_refl _⟩
theorem intBits_mono {x y : Int} (h : x.natAbs ≤ y.natAbs) (hy : Builtin.Int.intBits y ≤ 1048576) : Builtin.Int.intBits x ≤ 1048576 := by
  unfold Builtin.Int.intBits at *
  by_cases hx : x = 0
  · subst hx
    exact Nat.zero_le _
  · have hy0 : y ≠ 0 := fun z => hx (by subst z; simpa using h)
    rw [if_neg (by simpa using hx)]
    rw [if_neg (by simpa using hy0)] at hy
    have h1 : x.natAbs.log2 ≤ y.natAbs.log2 := by
      have e := (Nat.le_log2 (n := y.natAbs) (k := x.natAbs.log2) (by omega)).mpr
      exact e (Nat.le_trans (Nat.log2_self_le (by omega)) h)
    omega
theorem drawA_good {m : Int} (h0 : 0 < m) {τ : TS} (h : Good τ) : Good (drawA m τ).2 := by
  have hd := drop0_sub τ.1
  unfold drawA
  split
  · have a0 : 0 ≤ (τ.2 * 48271 + 12345).fmod 2147483647 := Int.fmod_nonneg_of_pos _ (by decide)
    have a1 : (τ.2 * 48271 + 12345).fmod 2147483647 < 2147483647 := Int.fmod_lt_of_pos _ (by decide)
    refine ⟨(fun c hc => nomatch hc), (fun c hc => nomatch hc), Nat.zero_le _, a0, a1, fun z => ?_⟩
    have h2 := h.s0
    have h3 := h.s1
    have h4 := h.s2
    have e := Int.mul_fdiv_add_fmod (τ.2 * 48271 + 12345) 2147483647
    have z : (τ.2 * 48271 + 12345).fmod 2147483647 = 934936168 := z
    rw [z] at e
    omega
  · rename_i v r e
    rw [e] at hd
    have hv := h.nn v (hd.1 v List.mem_cons_self)
    have hf : 0 ≤ v.fdiv m := Int.fdiv_nonneg hv (by omega)
    have hl : v.fdiv m ≤ v := by
      have e1 := Int.mul_fdiv_add_fmod v m
      have e2 := Int.fmod_nonneg_of_pos v h0
      have e3 : 1 * v.fdiv m ≤ m * v.fdiv m := Int.mul_le_mul_of_nonneg_right (by omega) hf
      omega
    refine ⟨fun c hc => ?_, fun c hc => ?_, by have := hd.2; have := h.len; rw [List.length_cons] at *; omega, h.s0, h.s1, h.s2⟩
    · rcases List.mem_cons.mp hc with rfl | hc
      · exact hf
      · exact h.nn c (hd.1 c (List.mem_cons_of_mem _ hc))
    · rcases List.mem_cons.mp hc with rfl | hc
      · exact intBits_mono (by omega) (h.bits v (hd.1 v List.mem_cons_self))
      · exact h.bits c (hd.1 c (List.mem_cons_of_mem _ hc))
def drawT (m : Int) (h0 : 0 < m) (τ : TA') : Int × TA' := ((drawA m τ.1).1, ⟨(drawA m τ.1).2, drawA_good h0 τ.2⟩)
def drawQ : List PD → TA' → Option (PD × TA')
  | [.dict [(.none, .none)], .int m], τ => if h : 0 < m ∧ m.natAbs.log2 < 9000 then some (.int (drawT m h.1 τ).1, (drawT m h.1 τ).2) else none
  | _, _ => none
/-- what the law has of a draw -/
theorem drawQ_eq {m : Int} (τ : TA') (h0 : 0 < m) (h1 : m.natAbs.log2 < 9000) : drawQ [tokD, .int m] τ = some (.int (drawT m h0 τ).1, (drawT m h0 τ).2) := dif_pos ⟨h0, h1⟩
theorem drawA_in {m : Int} (τ : TS) (h0 : 0 < m) : 0 ≤ (drawA m τ).1 ∧ (drawA m τ).1 < m := by
  unfold drawA
  split
  · exact ⟨Int.fmod_nonneg_of_pos _ h0, Int.fmod_lt_of_pos _ h0⟩
  · exact ⟨Int.fmod_nonneg_of_pos _ h0, Int.fmod_lt_of_pos _ h0⟩
theorem drawQ_ok {m : Int} (τ : TA') (h0 : 0 < m) (h1 : m.natAbs.log2 < 9000) : ∃ v τ', drawQ [tokD, .int m] τ = some (.int v, τ') ∧ 0 ≤ v ∧ v < m :=
  ⟨_, _, drawQ_eq τ h0 h1, drawA_in τ.1 h0⟩
theorem drawQ_len {ds : List PD} {τ : TA'} {r : PD × TA'} (h : drawQ ds τ = some r) : ds.length = 2 := by
  unfold drawQ at h
  split at h
  · rfl
  · cases h
theorem ifT {c : Bool} {A B : Prop} (h : c = true) (a : A) : if c = true then A else B := by rw [if_pos h]; exact a
theorem ifF {c : Bool} {A B : Prop} (h : c = false) (a : B) : if c = true then A else B := by rw [if_neg (by rw [h]; decide)]; exact a
theorem atI_zero {α : Type} {x : α} {xs : List α} : atI (x :: xs) 0 = some x := by
  unfold atI ixN
  rw [if_pos (Int.le_refl 0), if_pos (by rw [List.length_cons]; omega)]
  rfl
theorem ixN_zero {n : Nat} : ixN (n + 1) 0 = some 0 := by
  unfold ixN
  rw [if_pos (Int.le_refl 0), if_pos (by omega)]
  rfl
theorem seqIx_zero {n : Nat} : seqIndex? 0 (n + 1) = some 0 := by
  unfold seqIndex?
  simp only [Int.lt_irrefl, if_false]
  rw [if_pos (by simp; try omega)]
  rfl
theorem log2_le32 {s : Int} (h0 : 0 ≤ s) (h1 : s < 2 ^ 32) : s.natAbs.log2 < 32 := by
  by_cases z : s.natAbs = 0
  · rw [z]; decide
  · exact (Nat.log2_lt z).mpr (by omega)

/-- the state's making: nothing of it stands elsewhere -/
def tk0 : Tk Unit where
  Z _ := False
  ok _ _ := True
  tv := ⟨.non, 16777217⟩
  stay := fun _ _ _ _ _ => trivial
  there := fun _ _ _ _ h => h.elim
  tab _ := False
  tabZ := fun _ h => h
  tabOk := fun _ _ _ _ h => h.elim
  tabSt := fun _ _ _ _ _ h _ => h.elim
def stBody : Ss := .cons (.set 1 (.bin .mod (.bi .int (.cons (.bin .add (.bin .mul (.v 1) (.int 31)) (.v 2)) .nil)) (.int 1000003))) .nil
def stFor : S := .fr (.name 2) (.seq (.v 0)) stBody
def stAbs : E := .lc (.name 2) (.seq (.v 0)) (.bl true) (.bi .abs (.cons (.v 2) .nil))
def stTb : Tb := ⟨[], [], ["int", "abs"], [], [], false, false, 16777217⟩
def stG : Glob Unit := ⟨fun _ _ _ => none, fun _ => none, fun _ _ => none⟩
def stmtAt (st : Stmt) (i : Nat) : Stmt := (defBody st).getD i (.Pass ⟨0, 0, 0, 0⟩)
theorem st_loop : ∀ (ns : List Int) (d : PD) (s : Int) (x : Option Sl), 0 ≤ s → s < 1000003 → ∃ s' x', 0 ≤ s' ∧ s' < 1000003 ∧
    loopF (bindT (.name 2)) (exs stG stBody) (ns.map .int) [some (.sh d), some (.sh (.int s)), x] () = some (.nx [some (.sh d), some (.sh (.int s')), x'] ())
  | [], d, s, x, h0, h1 => ⟨s, x, h0, h1, rfl⟩
  | c :: ns, d, s, x, h0, h1 => by
    obtain ⟨s', x', g0, g1, e⟩ := st_loop ns d ((s * 31 + c).fmod 1000003) (some (.sh (.int c))) (Int.fmod_nonneg_of_pos _ (by decide)) (Int.fmod_lt_of_pos _ (by decide))
    refine ⟨s', x', g0, g1, ?_⟩
    rw [← e]
    have om : okMul s 31 = true := by
      unfold okMul
      have h2 := log2_le32 h0 (by omega)
      have h3 : (31 : Int).natAbs.log2 = 4 := by decide +kernel
      exact decide_eq_true (by omega)
    have e2 : exs stG stBody [some (.sh d), some (.sh (.int s)), some (.sh (.int c))] () = some (.nx [some (.sh d), some (.sh (.int ((s * 31 + c).fmod 1000003))), some (.sh (.int c))] ()) := by
      simp [stBody, exs, ex, ev, evs, bop, biD, get, put, om]
    rw [List.map_cons, loopF]
    show ((exs stG stBody [some (.sh d), some (.sh (.int s)), some (.sh (.int c))] ()).bind _) = _
    rw [e2]
    rfl
abbrev stF (ρ : Ev) : PD → Unit → Option (Option PD × Unit) := fun d τ => (bindT (.name 2) d (wipeE ρ (Tg.slots (.name 2)))).bind fun ρ1 => (ev stG (.bl true) ρ1 τ).bind fun q => (truth q.1).bind fun b => if b then (ev stG (.bi .abs (.cons (.v 2) .nil)) ρ1 q.2).map fun r => (some r.1, r.2) else some (none, q.2)
theorem st_abs (x0 x1 x2 : Option Sl) : ∀ (ns : List Int), lcLoop (stF [x0, x1, x2]) (ns.map .int) () = some ((ns.map fun i => if i < 0 then -i else i).map PyData.int, ())
  | [] => rfl
  | c :: ns => by
    show (lcLoop (stF [x0, x1, x2]) (ns.map .int) ()).bind _ = _
    rw [st_abs x0 x1 x2 ns]
    rfl
def spState (T : List Addr) (K : PySem.W.Frag) : Sp := fun vs H Q _ => ∃ (p : Addr) (ns : List Int), vs = [.ref p] ∧ SqL K H p (ns.map V.int) ∧ (ns.length ≤ 63 ∧ Bits ns) ∧ (∀ c ∈ T, GxR.TabG H c) ∧ ∀ (a b : Addr) (H' : Hp) (τ : TA'), (tkA 0 T a b).ok τ H' → Q (.ref a) H'
/-- what law(script) promises: for a list of at most 63 ints the answer is True -/
def spLaw (T : List Addr) (K : PySem.W.Frag) : Sp := fun vs H Q _ => ∃ (a : Addr) (ns : List Int), vs = [.ref a] ∧ SqL K H a (ns.map V.int) ∧ (ns.length ≤ 63 ∧ Bits ns) ∧ (∀ c ∈ T, GxR.TabG H c) ∧ ∀ H', Q (.bl true) H'

/-! ### a program's defs by lists -/
section
variable {T : Type} {k : Tk T} {P : Program} {w : World} {K : PySem.W.Frag} {mg : Str → Option Value} {base : Heap}
def AllD (K : PySem.W.Frag) (mg : Str → Option Value) : List (Str × DefT) → Prop
  | [] => True
  | q :: r => (∃ f fd, DefAt K mg q.1 q.2.st f fd q.2.ps) ∧ AllD K mg r
theorem AllD.get : ∀ {L : List (Str × DefT)}, AllD K mg L → ∀ (j : Nat) (x : Str) (D : DefT), (L.map (·.1))[j]? = some x → (L.map (·.2))[j]? = some D → ∃ f fd, DefAt K mg x D.st f fd D.ps
  | [], _, _, _, _, h, _ => by simp at h
  | q :: r, h, 0, x, D, h1, h2 => by
    simp only [List.map_cons, List.getElem?_cons_zero, Option.some.injEq] at h1 h2
    subst h1; subst h2
    exact h.1
  | q :: r, h, j + 1, x, D, h1, h2 => AllD.get h.2 j x D (by simpa using h1) (by simpa using h2)
/-- the defs by their text -/
def AllC (tb : Tb) : List (Df T) → List (Str × DefT) → Prop
  | d :: ds, q :: qs => (match d with | .code n ar body => chkD tb q.2 n ar body = true ∧ FnScope q.2.N q.2.ps (defScope q.2.st) | .prim _ => True) ∧ AllC tb ds qs
  | [], [] => True
  | _, _ => False
theorem AllC.get {tb : Tb} : ∀ {ds : List (Df T)} {L : List (Str × DefT)}, AllC tb ds L → ∀ (j n ar : Nat) (body : Ss) (D : DefT), ds[j]? = some (.code n ar body) → (L.map (·.2))[j]? = some D → chkD tb D n ar body = true ∧ FnScope D.N D.ps (defScope D.st)
  | [], _, _, _, _, _, _, _, h, _ => by simp at h
  | d :: ds, [], h, _, _, _, _, _, _, h2 => by simp at h2
  | d :: ds, q :: qs, h, 0, n, ar, body, D, h1, h2 => by
    simp only [List.map_cons, List.getElem?_cons_zero, Option.some.injEq] at h1 h2
    subst h1; subst h2
    exact h.1
  | d :: ds, q :: qs, h, j + 1, n, ar, body, D, h1, h2 => AllC.get h.2 j n ar body D (by simpa using h1) (by simpa using h2)
theorem AllC.len {tb : Tb} : ∀ {ds : List (Df T)} {L : List (Str × DefT)}, AllC tb ds L → ds.length = L.length
  | [], [], _ => rfl
  | [], _ :: _, h => h.elim
  | _ :: _, [], h => h.elim
  | d :: ds, q :: qs, h => by rw [List.length_cons, List.length_cons, AllC.len h.2]
theorem PgOk.gok {p : Pg T} {tb : Tb} {ts : List DefT} {c : Nat} (O : PgOk k P w K mg base p tb ts c) (hgx : tb.gx = false) (n : Nat) {X : Cx} (h1 : X.calm = true) (h2 : X.N.Nodup) (h3 : Room (n + c) X.A) (hrp : tb.rp = true → X.A.guards = some []) (e : X.prog = P ∧ X.w = w ∧ X.K = K ∧ X.mg = mg ∧ X.base = base) : GOk k ⟨run p n, fun c => p.cons[c]?, p.dct⟩ tb (n + c) X := by
  obtain ⟨rfl, rfl, rfl, rfl, rfl⟩ := e
  exact ⟨h1, h2, h3, fun i y hy => by
    have hi : i < ts.length := by rw [← O.nms]; exact (List.getElem?_eq_some_iff.mp hy).1
    obtain ⟨f', fd', A'⟩ := O.at_ i y ts[i] hy (List.getElem?_eq_getElem hi)
    obtain ⟨h1, h2⟩ := run_ok O n i y ts[i] f' fd' hy (List.getElem?_eq_getElem hi) A'
    exact ⟨f', fd', ts[i].ps, A'.m, A'.F.kp, A'.b, h1, h2⟩, O.cons, O.blt, O.mf, O.dct, fun z => (by rw [hgx] at z; cases z), hrp, O.kl⟩

/-! ### the law -/
theorem sp_cong {a b : List V → Hp → VK → XK → Prop} (h : a = b) : a = b := h
/-- state = _law_state(script), then what the tree says, whatever is drawn -/
theorem ok_lawG {G : Around → Prop} {T : List Addr} {sL : Stmt} {N : List Str} {p : Pg TA'} {tb : Tb} {ts : List DefT} {c n : Nat} {rest : Ss} {stR : List Stmt} {f fS : Addr} {fd fdS : FuncData} {p1 p2 p3 p4 p5 : Pos}
    (F : Fun K "law" "law" sL f fd) (hS : FnScope N ["script"] (defScope sL)) (hb : defBody sL = .Assign [.Name "state" p1] (.Call (.Name "_law_state" p2) [.Name "script" p3] [] p4) p5 :: stR)
    (hN0 : N[0]? = some ("script" : Str)) (hN : N[1]? = some ("state" : Str)) (hs0 : visB (defScope sL) "script" = true) (hs1 : locB none (defScope sL) "state" = true) (hs2 : glB (defScope sL) "_law_state" = true)
    (GS : ∀ lv, FnOk P w K mg base CX0 (lv + 1) fS fdS ["script"] (spState T K)) (bS : Binds K fdS ["script"] []) (kS : PySem.W.keepIn K (.ref fS) = true) (mS : mg "_law_state" = some (.ref fS))
    (O : ∀ a b, PgOk (tkA tb.kl T a b) P w K mg base p tb ts (c + 1)) (hgx : tb.gx = false) (hrp : ∀ A, G A → tb.rp = true → A.guards = some []) (chk : chkSs tb N (defScope sL) rest stR = true)
    (hE : ∀ τ : TA', ∃ τ', exs ⟨run p n, fun c => p.cons[c]?, p.dct⟩ rest (none :: some (.sh tokD) :: List.replicate (N.length - 2) none) τ = some (.rt (.bool true) τ')) :
    FnOkG G P w K mg base CX0 (n + (c + 1) + 1) f fd ["script"] (spLaw T K) := by
  refine fnG_of F hS (fun vs H Q E h => by obtain ⟨a, ns, rfl, _⟩ := h; rfl) (fun cdv A outer s H vs Q E hG hr h => ?_)
  obtain ⟨sc, ns, rfl, hSq, h63, hT, q⟩ := h
  have C : ∀ a b, CXt (tkA tb.kl T a b) ⟨run p n, fun c => p.cons[c]?, p.dct⟩ tb (n + (c + 1)) N none (defScope sL) (cxOf CX0 P w K mg base N "law" (defScope sL) f cdv A outer s H E).nox := fun a b => ⟨(O a b).gok hgx n rfl hS.nd hr (fun z => hrp A hG z) ⟨rfl, rfl, rfl, rfl, rfl⟩, rfl, rfl, rfl⟩
  have S := fun a b => (sndSs rest (defScope sL) stR _ chk (C a b) hS.kind PassesOwn.never).ex
  have pv0 : PE (cxOf CX0 P w K mg base N "law" (defScope sL) f cdv A outer s H E).nox (.Name "script" p3) (tVar 0) := pe_var hN0 (vis_of hs0)
  obtain ⟨hl, hf⟩ := loc_of (C 0 0) hs1
  rw [hb]
  refine ⟨_, pss_cons (ps_set (i := 1) hS.nd hN hl (pe_call (GS (n + c)) hr (gl_of (C 0 0) hs2) mS kS bS .nil pass0 (pa_cons pv0 pa_nil)))
    (rest := stR) (u := fun D σ H => ∃ a b, (S a b).choose D σ H) ⟨fun pins s' σ H D I hw => ?_⟩, ?_⟩
  · obtain ⟨a, b, hw⟩ := hw
    exact (S a b).choose_spec.1.run pins s' σ H D I hw
  refine ⟨.ref sc, ?_, sc, ns, rfl, hSq, h63, hT, fun a b H' τ hok => ?_⟩
  · show (L2.start N [.ref sc])[0]? = _
    rfl
  refine ⟨a, b, ?_⟩
  obtain ⟨τ', e⟩ := hE τ
  have hlen : (L2.start N [.ref sc]).length = N.length := by
    unfold L2.start
    have : 0 < N.length := (List.getElem?_eq_some_iff.mp hN0).1
    rw [List.length_append, List.length_map, List.length_replicate, List.length_singleton]
    omega
  have h1 : 1 < N.length := (List.getElem?_eq_some_iff.mp hN).1
  have key : ∀ (i : Nat) (s : Sl), (none :: some (Sl.sh tokD) :: List.replicate (N.length - 2) none)[i]? = some (some s) → i = 1 ∧ s = .sh tokD := fun i s e => by
    match i, e with
    | 1, e => simp only [List.getElem?_cons_succ, List.getElem?_cons_zero, Option.some.injEq] at e; exact ⟨rfl, e.symm⟩
    | i + 2, e =>
      rw [List.getElem?_cons_succ, List.getElem?_cons_succ, List.getElem?_replicate] at e
      split at e <;> cases e
  refine (S a b).choose_spec.2 H' (fun _ => False) _ τ _ (fun _ => False) H' (.rt (.bool true) τ') _ ⟨?_, fun i s e => ?_, fun i ds v e1 eo e2 => ?_, fun i j ds es v e1 _ eo => ?_⟩ (.refl _ _ _) ⟨hok, fun _ h => h.elim⟩ e ?_
  · rw [List.length_set, hlen, List.length_cons, List.length_cons, List.length_replicate]
    omega
  · obtain ⟨rfl, rfl⟩ := key i s e
    exact ⟨.ref a, List.getElem?_set_self (by rw [hlen]; exact h1), .tok⟩
  · obtain ⟨_, h⟩ := key i _ e1; subst h; cases eo
  · obtain ⟨_, h⟩ := key i _ e1; subst h; cases eo
  · intro v F' H'' l g r
    cases r
    exact q H''
theorem ok_lawA {T : List Addr} {sL : Stmt} {N : List Str} {p : Pg TA'} {tb : Tb} {ts : List DefT} {c n : Nat} {rest : Ss} {stR : List Stmt} {f fS : Addr} {fd fdS : FuncData} {p1 p2 p3 p4 p5 : Pos}
    (F : Fun K "law" "law" sL f fd) (hS : FnScope N ["script"] (defScope sL)) (hb : defBody sL = .Assign [.Name "state" p1] (.Call (.Name "_law_state" p2) [.Name "script" p3] [] p4) p5 :: stR)
    (hN0 : N[0]? = some ("script" : Str)) (hN : N[1]? = some ("state" : Str)) (hs0 : visB (defScope sL) "script" = true) (hs1 : locB none (defScope sL) "state" = true) (hs2 : glB (defScope sL) "_law_state" = true)
    (GS : ∀ lv, FnOk P w K mg base CX0 (lv + 1) fS fdS ["script"] (spState T K)) (bS : Binds K fdS ["script"] []) (kS : PySem.W.keepIn K (.ref fS) = true) (mS : mg "_law_state" = some (.ref fS))
    (O : ∀ a b, PgOk (tkA tb.kl T a b) P w K mg base p tb ts (c + 1)) (hgx : tb.gx = false) (hrp : tb.rp = false) (chk : chkSs tb N (defScope sL) rest stR = true)
    (hE : ∀ τ : TA', ∃ τ', exs ⟨run p n, fun c => p.cons[c]?, p.dct⟩ rest (none :: some (.sh tokD) :: List.replicate (N.length - 2) none) τ = some (.rt (.bool true) τ')) :
    FnOk P w K mg base CX0 (n + (c + 1) + 1) f fd ["script"] (spLaw T K) :=
  (ok_lawG (G := fun _ => True) F hS hb hN0 hN hs0 hs1 hs2 GS bS kS mS O hgx (fun _ _ z => by rw [hrp] at z; cases z) chk hE).all
end
end Fh
namespace Fh
open PySem L2 PyProof.Rows

/-! ### what the program's top has left, def by def -/
section
variable {K : PySem.W.Frag} {h : Heap} {mg : Str → Option Value}
theorem defAt_mk {x : Str} {st : Stmt} {ps : List Str} {f : Addr} {od an : Option Addr} {sl : Array (Option Value)} {oc kV dc pm cd ct : Value} (X : K.In h) (G : h.Ns mainGlobals mg)
    (a : PySem.W.nsIn K mainGlobals x = some (some (.ref f))) (l : K.lookup f = some ⟨oc, od, .func (PySem.W.fnOf x x (defArgs st) (defBody st) (defScope st) .none kV dc pm an cd ct), sl⟩) (c : PySem.W.codeIn K cd x = true) (k : PySem.W.keepIn K (.ref f) = true)
    (b : ∀ {f : Addr} {fd : FuncData}, Fun K x x st f fd → Binds K fd ps []) : ∃ f fd, DefAt K mg x st f fd ps :=
  ⟨f, _, fun_mk l c k, PySem.W.mg_of X G a, b (fun_mk l c k)⟩
def AllZ (K : PySem.W.Frag) : List Str → Prop
  | [] => True
  | x :: r => PySem.W.nsIn K mainGlobals x = some none ∧ AllZ K r
theorem AllZ.get (X : K.In h) (G : h.Ns mainGlobals mg) : ∀ {l : List Str}, AllZ K l → ∀ x ∈ l, mg x = none
  | [], _, x, hx => by cases hx
  | y :: r, H, x, hx => by
    rcases List.mem_cons.mp hx with rfl | hx
    · exact PySem.W.mg_none_of X G H.1
    · exact AllZ.get X G H.2 x hx
def AllM (K : PySem.W.Frag) : List (Str × String) → Prop
  | [] => True
  | q :: r => PySem.W.nsIn K mainGlobals q.1 = some (some (.builtin q.2)) ∧ AllM K r
theorem AllM.get (X : K.In h) (G : h.Ns mainGlobals mg) : ∀ {l : List (Str × String)}, AllM K l → ∀ q ∈ l, mg q.1 = some (.builtin q.2)
  | [], _, x, hx => by cases hx
  | y :: r, H, x, hx => by
    rcases List.mem_cons.mp hx with rfl | hx
    · exact PySem.W.mg_of X G H.1
    · exact AllM.get X G H.2 x hx
mutual
/-- no tuple of n entries in it -/
def okKl (n : Nat) : PD → Bool
  | .tuple xs => decide (¬ KB n xs.length) && okKlA n xs
  | .list xs => okKlA n xs
  | _ => true
def okKlA (n : Nat) : List PD → Bool
  | [] => true
  | x :: r => okKl n x && okKlA n r
end
/-- the program's constants: their names, what they stand for -/
def ConOk (K : PySem.W.Frag) (x : Str) (d : PD) : Prop := ∃ u v, PySem.W.nsIn K mainGlobals x = some (some u) ∧ RelV v u ∧ ∀ tv F H, okKl tv.kl d = true → Rp K tv F H v d
def AllK (K : PySem.W.Frag) : List Str → List PD → Prop
  | x :: r, d :: ds => ConOk K x d ∧ AllK K r ds
  | [], [] => True
  | _, _ => False
theorem AllK.get (X : K.In h) (G : h.Ns mainGlobals mg) {tv : TV} : ∀ {l : List Str} {ds : List PD}, AllK K l ds → ds.all (okKl tv.kl) = true → ∀ (c : Nat) (x : Str), l[c]? = some x → ∃ u v d, mg x = some u ∧ RelV v u ∧ ds[c]? = some d ∧ ∀ F H, Rp K tv F H v d
  | [], _, _, _, _, _, h => by simp at h
  | y :: r, [], H, _, _, _, _ => H.elim
  | y :: r, d :: ds, H, hk, 0, x, h => by
    rw [List.all_cons, Bool.and_eq_true] at hk
    simp only [List.getElem?_cons_zero, Option.some.injEq] at h
    subst h
    obtain ⟨u, v, h1, h2, h3⟩ := H.1
    exact ⟨u, v, d, PySem.W.mg_of X G h1, h2, rfl, fun F H => h3 tv F H hk.1⟩
  | y :: r, d :: ds, H, hk, c + 1, x, h => by
    rw [List.all_cons, Bool.and_eq_true] at hk
    obtain ⟨u, v, e, h1, h2, h3, h4⟩ := AllK.get X G H.2 hk.2 c x (by simpa using h)
    exact ⟨u, v, e, h1, h2, by simpa using h3, h4⟩
/-- dicts of the top, with texts as keys -/
def DctOk (K : PySem.W.Frag) (w : World) (x : Str) (l : List (Str × PD)) : Prop := ∃ a es n, PySem.W.nsIn K mainGlobals x = some (some (.ref a)) ∧ K.lookup a = some ⟨.type "dict", none, .dict es n, #[]⟩ ∧ PySem.W.KeysLit w.params es.toList ∧
  ∀ q ∈ l, ∃ u v, PySem.W.nsIn K a q.1 = some (some u) ∧ RelV v u ∧ ∀ tv F H, okKl tv.kl q.2 = true → Rp K tv F H v q.2
def AllDc (K : PySem.W.Frag) (w : World) : List Str → List (List (Str × PD)) → Prop
  | x :: r, d :: ds => DctOk K w x d ∧ AllDc K w r ds
  | [], [] => True
  | _, _ => False
theorem lookup_mem {l : List (Str × PD)} {z : Str} {d : PD} (h : l.lookup z = some d) : (z, d) ∈ l := by
  induction l with
  | nil => cases h
  | cons q r ih =>
    rw [List.lookup_cons] at h
    split at h
    · rename_i hb
      cases h
      rw [eq_of_beq hb]
      exact List.mem_cons_self
    · exact List.mem_cons_of_mem _ (ih h)
theorem AllDc.get (X : K.In h) (G : h.Ns mainGlobals mg) {w : World} {tv : TV} : ∀ {l : List Str} {ds : List (List (Str × PD))}, AllDc K w l ds → ds.all (fun l => l.all fun q => okKl tv.kl q.2) = true → ∀ (c : Nat) (x : Str), l[c]? = some x → ∃ a, mg x = some (.ref a) ∧ ∀ z d, ((ds[c]?).bind fun l => l.lookup z) = some d → ∃ v, KDct K w a z v ∧ ∀ F H, Rp K tv F H v d
  | [], _, _, _, _, _, h => by simp at h
  | y :: r, [], H, _, _, _, _ => H.elim
  | y :: r, d :: ds, H, hk, 0, x, h => by
    rw [List.all_cons, Bool.and_eq_true] at hk
    simp only [List.getElem?_cons_zero, Option.some.injEq] at h
    subst h
    obtain ⟨a, es, n, h1, h2, h3, h4⟩ := H.1
    refine ⟨a, PySem.W.mg_of X G h1, fun z d' e => ?_⟩
    have hm := lookup_mem (show d.lookup z = some d' by simpa using e)
    obtain ⟨u, v, h5, h6, h7⟩ := h4 _ hm
    exact ⟨v, ⟨es, n, u, h2, h3, h5, h6⟩, fun F H => h7 tv F H (List.all_eq_true.mp hk.1 _ hm)⟩
  | y :: r, d :: ds, H, hk, c + 1, x, h => by
    rw [List.all_cons, Bool.and_eq_true] at hk
    obtain ⟨a, h1, h2⟩ := AllDc.get X G H.2 hk.2 c x (by simpa using h)
    exact ⟨a, h1, fun z d' e => h2 z d' (by simpa using e)⟩
/-- the defs in which a generator is made: their code objects and tables are among cs -/
def AllG (K : PySem.W.Frag) (mg : Str → Option Value) (cs : List (Addr × Addr)) : List (Str × DefT) → Prop
  | [] => True
  | q :: r => (q.2.gx = true → ∃ p ∈ cs, ∀ f fd, DefAt K mg q.1 q.2.st f fd q.2.ps → fd.code = .ref p.1) ∧ AllG K mg cs r
theorem AllG.get {K : PySem.W.Frag} {mg : Str → Option Value} {cs : List (Addr × Addr)} : ∀ {L : List (Str × DefT)}, AllG K mg cs L → ∀ (j : Nat) (x : Str) (D : DefT), (L.map (·.1))[j]? = some x → (L.map (·.2))[j]? = some D → D.gx = true → ∃ p ∈ cs, ∀ f fd, DefAt K mg x D.st f fd D.ps → fd.code = .ref p.1
  | [], _, _, _, _, h, _, _ => by simp at h
  | q :: r, H, 0, x, D, h1, h2, hg => by
    simp only [List.map_cons, List.getElem?_cons_zero, Option.some.injEq] at h1 h2
    subst h1; subst h2
    exact H.1 hg
  | q :: r, H, j + 1, x, D, h1, h2, hg => H.2.get j x D (by simpa using h1) (by simpa using h2) hg
/-- a law with its state in cells: all but the law's own reading -/
theorem pgOkA {P : Program} {w : World} {base : Heap} {cs : List (Addr × Addr)} {Nl : List Str} {a b : Addr} {defs : List (Df TA')} {cons : List PD} {dcts : List (List (Str × PD))} {tb : Tb} {L : List (Str × DefT)} {sD : Stmt} {defs' : List (Df TA')} {L' : List (Str × DefT)} (X : K.In h) (G : h.Ns mainGlobals mg)
    (hn : tb.names = L.map (·.1)) (hd : AllD K mg L) (hc : AllC tb defs L) (h0 : defs = .prim drawQ :: defs') (hL : L = (("_law_draw" : Str), ⟨sD, Nl, ["state", "many"], false⟩) :: L') (hp : ∀ (j : Nat) (q : List PD → TA' → Option (PD × TA')), defs'[j]? ≠ some (.prim q))
    (hz : AllZ K tb.bl) (hm : AllM K tb.mf) (hk : AllK K tb.cns cons) (hdc : AllDc K w tb.dcs dcts) (hkl : (cons.all (okKl tb.kl) && dcts.all (fun l => l.all fun q => okKl tb.kl q.2)) = true) (hgt : AllG K mg cs L) (hTB : ∀ p ∈ cs, GxR.TabB base mg p.1 p.2)
    (hD : ∀ {f : Addr} {fd : FuncData}, Fun K "_law_draw" "_law_draw" sD f fd → FnOk P w K mg base CX0 1 f fd ["state", "many"] (spOf (tkA tb.kl (cs.map (·.2)) a b) K drawQ 2)) : PgOk (tkA tb.kl (cs.map (·.2)) a b) P w K mg base ⟨defs, cons, dcts⟩ tb (L.map (·.2)) 1 := by
  refine ⟨by rw [List.length_map]; exact hc.len, by rw [hn, List.length_map, List.length_map], fun j x D hx h => hd.get j x D (by rw [← hn]; exact hx) h, fun j n ar body D h1 h2 => hc.get j n ar body D h1 h2, fun j q D x f fd h1 h2 h3 A => ?_, fun c x hx => hk.get X G (Bool.and_eq_true .. ▸ hkl).1 c x hx, fun x hx => hz.get X G x hx, fun q hq => hm.get X G q hq, fun c x hx => hdc.get X G (Bool.and_eq_true .. ▸ hkl).2 c x hx, rfl, fun j x D f fd hx hD hgx A => by
    obtain ⟨p, hp, e⟩ := hgt.get j x D (by rw [← hn]; exact hx) hD hgx
    exact ⟨p.1, p.2, List.mem_map.mpr ⟨p, hp, rfl⟩, e f fd A, hTB p hp⟩⟩
  subst h0
  subst hL
  cases j with
  | zero =>
    simp only [List.getElem?_cons_zero, Option.some.injEq] at h1
    cases h1
    have e2 : D = ⟨sD, Nl, ["state", "many"], false⟩ := by
      rw [List.map_cons, List.getElem?_cons_zero] at h2
      exact (Option.some.inj h2).symm
    have e3 : x = ("_law_draw" : Str) := by
      rw [hn, List.map_cons, List.getElem?_cons_zero] at h3
      exact (Option.some.inj h3).symm
    subst e2
    subst e3
    exact ⟨hD A.F, fun ds τ r e => drawQ_len e⟩
  | succ j => exact absurd (by simpa using h1) (hp j q)
theorem no_prim {defs : List (Df TA')} (h : defs.all (fun d => match d with | .prim _ => false | _ => true) = true) : ∀ (j : Nat) (q : List PD → TA' → Option (PD × TA')), defs[j]? ≠ some (.prim q) := fun j q e => by
  have := List.all_eq_true.mp h _ (List.mem_of_getElem? e)
  cases this
end
end Fh
namespace Fh
open PySem L2 PyProof.Rows

/-! ### what draws nothing runs alike with any state: from the run with no state -/
section
variable {T : Type} {α β γ : Type} (τ : T)
def Lf (x : Option (α × Unit)) (y : Option (α × T)) : Prop := ∀ a, x = some (a, ()) → y = some (a, τ)
variable {τ}
theorem Lf.bind {x : Option (α × Unit)} {y : Option (α × T)} {f : α × Unit → Option (β × Unit)} {g : α × T → Option (β × T)} (h : Lf τ x y) (h2 : ∀ a, Lf τ (f (a, ())) (g (a, τ))) : Lf τ (x.bind f) (y.bind g) := fun b e => by
  cases x with
  | none => cases e
  | some a => rw [h a.1 rfl]; exact h2 a.1 b e
theorem Lf.pure {a : α} : Lf τ (some (a, ())) (some (a, τ)) := fun b e => by cases e; rfl
theorem Lf.none {y : Option (α × T)} : Lf τ none y := fun _ e => by cases e
theorem Lf.omap {o : Option α} {f : α → β} : Lf τ (o.map fun c => (f c, ())) (o.map fun c => (f c, τ)) := fun b e => by
  cases o with
  | none => cases e
  | some a => cases e; rfl
theorem Lf.obind {o : Option α} {f : α → Option (β × Unit)} {g : α → Option (β × T)} (h : ∀ a, Lf τ (f a) (g a)) : Lf τ (o.bind f) (o.bind g) := fun b e => by
  cases o with
  | none => cases e
  | some a => exact h a b e
theorem Lf.ite {c : Prop} [Decidable c] {x1 x2 : Option (α × Unit)} {y1 y2 : Option (α × T)} (h1 : Lf τ x1 y1) (h2 : Lf τ x2 y2) : Lf τ (if c then x1 else x2) (if c then y1 else y2) := by
  split
  · exact h1
  · exact h2
theorem Lf.map {x : Option (α × Unit)} {y : Option (α × T)} {f : α × Unit → β × Unit} {g : α × T → β × T} (h : Lf τ x y) (h2 : ∀ a, f (a, ()) = ((g (a, τ)).1, ()) ∧ (g (a, τ)).2 = τ) : Lf τ (x.map f) (y.map g) := fun b e => by
  cases x with
  | none => cases e
  | some a =>
    rw [h a.1 rfl]
    obtain ⟨h3, h4⟩ := h2 a.1
    have e' : f (a.1, ()) = (b, ()) := Option.some.inj e
    rw [h3] at e'
    cases e'
    exact congrArg some (Prod.ext rfl h4)
end
section
variable {T : Type} {gU : Glob Unit} {gT : Glob T}
structure GL (gU : Glob Unit) (gT : Glob T) : Prop where
  call : ∀ f ds (τ : T), Lf τ (gU.call f ds ()) (gT.call f ds τ)
  con : ∀ c, gU.con c = gT.con c
  dct : ∀ c z, gU.dct c z = gT.dct c z
theorem lc_lift {s1 : PD → Unit → Option (Option PD × Unit)} {s2 : PD → T → Option (Option PD × T)} {τ : T} (h : ∀ d, Lf τ (s1 d ()) (s2 d τ)) : ∀ ds, Lf τ (lcLoop s1 ds ()) (lcLoop s2 ds τ)
  | [] => .pure
  | d :: ds => by
    rw [lcLoop, lcLoop]
    exact (h d).bind fun p => (lc_lift h ds).bind fun q => .pure
theorem dc_lift {n : Nat} {s1 : PD → Unit → Option (Option (PD × PD) × Unit)} {s2 : PD → T → Option (Option (PD × PD) × T)} {τ : T} (h : ∀ d, Lf τ (s1 d ()) (s2 d τ)) : ∀ ds kvs, Lf τ (dcLoop n s1 ds kvs ()) (dcLoop n s2 ds kvs τ)
  | [], kvs => .pure
  | d :: ds, kvs => by
    rw [dcLoop, dcLoop]
    refine (h d).bind fun p => ?_
    cases p with
    | none => exact dc_lift h ds kvs
    | some kv => exact .obind fun kk => dc_lift h ds _
variable (G : GL gU gT)
include G
mutual
theorem liftE (τ : T) : ∀ (m : E) (ρ : Ev), Lf τ (ev gU m ρ ()) (ev gT m ρ τ)
  | .int i, ρ => by rw [ev, ev]; exact .pure
  | .str s, ρ => by rw [ev, ev]; exact .pure
  | .bl b, ρ => by rw [ev, ev]; exact .pure
  | .non, ρ => by rw [ev, ev]; exact .pure
  | .v i, ρ => by rw [ev, ev]; exact .omap
  | .pk i, ρ => by rw [ev, ev]; exact .omap
  | .con c, ρ => by rw [ev, ev, G.con]; exact .omap
  | .bin o a b, ρ => by rw [ev, ev]; exact (liftE τ a ρ).bind fun p => (liftE τ b ρ).bind fun q => .omap
  | .neg a, ρ => by
    rw [ev, ev]; refine (liftE τ a ρ).bind fun p => ?_
    cases p <;> first | exact .pure | exact .none
  | .cmp o a b, ρ => by rw [ev, ev]; exact (liftE τ a ρ).bind fun p => (liftE τ b ρ).bind fun q => .omap
  | .ch o p a b c, ρ => by
    rw [ev, ev]; exact (liftE τ a ρ).bind fun p => (liftE τ b ρ).bind fun q => .obind fun k => .ite ((liftE τ c ρ).bind fun r => .omap) .pure
  | .ch3 o p q a b c d, ρ => by
    rw [ev, ev]; exact (liftE τ a ρ).bind fun p => (liftE τ b ρ).bind fun q => .obind fun k => .ite ((liftE τ c ρ).bind fun r => .obind fun k2 => .ite ((liftE τ d ρ).bind fun s => .omap) .pure) .pure
  | .isN n a, ρ => by
    rw [ev, ev]; refine (liftE τ a ρ).bind fun p => ?_
    cases p <;> first | exact .pure | exact .none
  | .isB n b a, ρ => by
    rw [ev, ev]; refine (liftE τ a ρ).bind fun p => ?_
    cases p <;> first | exact .pure | exact .none
  | .nt a, ρ => by rw [ev, ev]; exact (liftE τ a ρ).bind fun p => .omap
  | .ands es, ρ => by rw [ev, ev]; exact liftA τ es ρ
  | .ors es, ρ => by rw [ev, ev]; exact liftO τ es ρ
  | .ite t a b, ρ => by rw [ev, ev]; exact (liftE τ t ρ).bind fun p => .obind fun k => .ite (liftE τ a ρ) (liftE τ b ρ)
  | .tup es, ρ => by rw [ev, ev]; exact (liftEs τ es ρ).bind fun p => .ite .pure .none
  | .lst es, ρ => by rw [ev, ev]; exact (liftEs τ es ρ).bind fun p => .ite .pure .none
  | .ix a i, ρ => by rw [ev, ev]; exact (liftE τ a ρ).bind fun p => (liftE τ i ρ).bind fun q => .omap
  | .sl a lo hi, ρ => by rw [ev, ev]; exact (liftE τ a ρ).bind fun p => (liftE τ lo ρ).bind fun q => (liftE τ hi ρ).bind fun r => .obind fun l => .obind fun h => .omap
  | .rv a, ρ => by
    rw [ev, ev]; refine (liftE τ a ρ).bind fun p => ?_
    cases p <;> first | exact .pure | exact .none | exact .ite .pure .none
  | .call f es, ρ => by rw [ev, ev]; exact (liftEs τ es ρ).bind fun p => G.call f p τ
  | .bi b es, ρ => by rw [ev, ev]; exact (liftEs τ es ρ).bind fun p => .omap
  | .me m a es, ρ => by rw [ev, ev]; exact (liftE τ a ρ).bind fun p => (liftEs τ es ρ).bind fun q => .omap
  | .dix ks vs x, ρ => by
    rw [ev, ev]; refine (liftEs τ vs ρ).bind fun p => (liftE τ x ρ).bind fun q => ?_
    cases q <;> first | exact .omap | exact .none
  | .cix c x, ρ => by
    rw [ev, ev]; refine (liftE τ x ρ).bind fun q => ?_
    have e := G.dct c
    rw [show gU.dct c = gT.dct c from funext e]
    cases q <;> first | exact .omap | exact .none
  | .gx al a t, ρ => by
    rw [ev, ev, show gU.con = gT.con from funext G.con]; exact (liftE τ a ρ).bind fun p => .omap
  | .din n i a, ρ => by rw [ev, ev]; exact (liftE τ a ρ).bind fun p => .obind fun q => .omap
  | .dgt i a, ρ => by rw [ev, ev]; exact (liftE τ a ρ).bind fun p => .obind fun q => .obind fun kk => .omap
  | .vgt a i, ρ => by rw [ev, ev]; exact (liftE τ a ρ).bind fun p => (liftE τ i ρ).bind fun q => .obind fun r => .obind fun kk => .omap
  | .vin n a b, ρ => by rw [ev, ev]; exact (liftE τ a ρ).bind fun p => (liftE τ b ρ).bind fun q => .obind fun r => .omap
  | .dks i, ρ => by rw [ev, ev]; exact .obind fun q => .ite .pure .none
  | .dln i, ρ => by rw [ev, ev]; exact .obind fun q => .ite .pure .none
  | .rp a, ρ => by
    rw [ev, ev]; exact (liftE τ a ρ).bind fun p => .omap
  | .lr tp a, ρ => by
    rw [ev, ev]; refine (liftE τ a ρ).bind fun p => ?_
    cases p <;> first | exact .ite .pure .none | exact .none
  | .ls a, ρ => by
    rw [ev, ev]; refine (liftE τ a ρ).bind fun p => ?_
    cases p <;> first | exact .obind fun ss => .ite .pure .none | exact .none
  | .ss a, ρ => by
    rw [ev, ev]; refine (liftE τ a ρ).bind fun p => ?_
    cases p <;> first | exact .omap | exact .none
  | .lc tg it c elt, ρ => by
    rw [ev, ev]; exact (liftI τ it ρ).bind fun p => .ite ((lc_lift (fun d => .obind fun ρ1 => (liftE τ c ρ1).bind fun q => .obind fun b => .ite ((liftE τ elt ρ1).map fun r => ⟨rfl, rfl⟩) .pure) p).map fun r => ⟨rfl, rfl⟩) .none
theorem liftEs (τ : T) : ∀ (es : Es) (ρ : Ev), Lf τ (evs gU es ρ ()) (evs gT es ρ τ)
  | .nil, ρ => by rw [evs, evs]; exact .pure
  | .cons e es, ρ => by rw [evs, evs]; exact (liftE τ e ρ).bind fun p => (liftEs τ es ρ).map fun q => ⟨rfl, rfl⟩
theorem liftA (τ : T) : ∀ (es : Es) (ρ : Ev), Lf τ (evAnd gU es ρ ()) (evAnd gT es ρ τ)
  | .nil, ρ => by rw [evAnd, evAnd]; exact .none
  | .cons e .nil, ρ => by rw [evAnd, evAnd]; exact (liftE τ e ρ).bind fun p => .pure
  | .cons e (.cons f fs), ρ => by rw [evAnd, evAnd]; exact (liftE τ e ρ).bind fun p => .obind fun b => .ite (liftA τ (.cons f fs) ρ) .pure
theorem liftO (τ : T) : ∀ (es : Es) (ρ : Ev), Lf τ (evOr gU es ρ ()) (evOr gT es ρ τ)
  | .nil, ρ => by rw [evOr, evOr]; exact .none
  | .cons e .nil, ρ => by rw [evOr, evOr]; exact (liftE τ e ρ).bind fun p => .pure
  | .cons e (.cons f fs), ρ => by rw [evOr, evOr]; exact (liftE τ e ρ).bind fun p => .obind fun b => .ite .pure (liftO τ (.cons f fs) ρ)
theorem liftI (τ : T) : ∀ (it : Ir) (ρ : Ev), Lf τ (items gU it ρ ()) (items gT it ρ τ)
  | .rng1 a, ρ => by
    rw [items, items]; refine (liftE τ a ρ).bind fun p => ?_
    cases p <;> first | exact .ite .pure .none | exact .none
  | .rng2 a b, ρ => by
    rw [items, items]; refine (liftE τ a ρ).bind fun p => (liftE τ b ρ).bind fun q => ?_
    cases p <;> first | exact .none | skip
    cases q <;> first | exact .ite .pure .none | exact .none
  | .rngC a b c, ρ => by
    rw [items, items]; refine (liftE τ a ρ).bind fun p => (liftE τ b ρ).bind fun q => ?_
    cases p <;> first | exact .none | skip
    cases q <;> first | exact .ite .pure .none | exact .none
  | .seq e, ρ => by rw [items, items]; exact (liftE τ e ρ).bind fun p => .omap
  | .enum e, ρ => by
    rw [items, items]; refine (liftE τ e ρ).bind fun p => ?_
    cases p <;> first | exact .pure | exact .none
  | .zip a b, ρ => by
    rw [items, items]; refine (liftE τ a ρ).bind fun p => (liftE τ b ρ).bind fun q => ?_
    cases p <;> first | exact .none | skip
    all_goals cases q <;> first | exact .pure | exact .none
  | .rev e, ρ => by
    rw [items, items]; refine (liftE τ e ρ).bind fun p => ?_
    cases p <;> first | exact .pure | exact .none
end
theorem liftT (τ : T) (m : E) (ρ : Ev) : Lf τ (evT gU m ρ ()) (evT gT m ρ τ) := (liftE G τ m ρ).bind fun p => .omap
end
def outT {T : Type} (τ : T) : Out Unit → Out T
  | .nx ρ _ => .nx ρ τ
  | .rt d _ => .rt d τ
  | .bk ρ _ => .bk ρ τ
  | .ct ρ _ => .ct ρ τ
section
variable {T : Type} {α β γ : Type} {τ : T}
/-- the same of statements -/
def Lo (τ : T) (x : Option (Out Unit)) (y : Option (Out T)) : Prop := ∀ o, x = some o → y = some (outT τ o)
theorem Lo.none {y : Option (Out T)} : Lo τ none y := fun _ e => by cases e
theorem Lo.pure {o : Out Unit} : Lo τ (some o) (some (outT τ o)) := fun b e => by cases e; rfl
theorem Lf.lo {x : Option (α × Unit)} {y : Option (α × T)} {f : α × Unit → Option (Out Unit)} {g : α × T → Option (Out T)} (h : Lf τ x y) (h2 : ∀ a, Lo τ (f (a, ())) (g (a, τ))) : Lo τ (x.bind f) (y.bind g) := fun b e => by
  cases x with
  | none => cases e
  | some a => rw [h a.1 rfl]; exact h2 a.1 b e
theorem Lf.lom {x : Option (α × Unit)} {y : Option (α × T)} {f : α × Unit → Out Unit} {g : α × T → Out T} (h : Lf τ x y) (h2 : ∀ a, outT τ (f (a, ())) = g (a, τ)) : Lo τ (x.map f) (y.map g) := fun b e => by
  cases x with
  | none => cases e
  | some a => rw [h a.1 rfl]; cases e; show some (g _) = _; rw [← h2]
theorem Lo.ite {c : Prop} [Decidable c] {x1 x2 : Option (Out Unit)} {y1 y2 : Option (Out T)} (h1 : Lo τ x1 y1) (h2 : Lo τ x2 y2) : Lo τ (if c then x1 else x2) (if c then y1 else y2) := by
  split
  · exact h1
  · exact h2
theorem Lo.obind {o : Option α} {f : α → Option (Out Unit)} {g : α → Option (Out T)} (h : ∀ a, Lo τ (f a) (g a)) : Lo τ (o.bind f) (o.bind g) := fun b e => by
  cases o with
  | none => cases e
  | some a => exact h a b e
theorem Lo.omap {o : Option α} {f : α → Out Unit} {g : α → Out T} (h : ∀ a, outT τ (f a) = g a) : Lo τ (o.map f) (o.map g) := fun b e => by
  cases o with
  | none => cases e
  | some a => cases e; show some (g a) = _; rw [← h]
theorem Lo.bind {x : Option (Out Unit)} {y : Option (Out T)} {f : Out Unit → Option (Out Unit)} {g : Out T → Option (Out T)} (h : Lo τ x y) (h2 : ∀ o, Lo τ (f o) (g (outT τ o))) : Lo τ (x.bind f) (y.bind g) := fun b e => by
  cases x with
  | none => cases e
  | some a => rw [h a rfl]; exact h2 a b e
theorem loopF_lift {bd : PD → Ev → Option Ev} {b1 : Ev → Unit → Option (Out Unit)} {b2 : Ev → T → Option (Out T)} (h : ∀ ρ, Lo τ (b1 ρ ()) (b2 ρ τ)) : ∀ ds ρ, Lo τ (loopF bd b1 ds ρ ()) (loopF bd b2 ds ρ τ)
  | [], ρ => .pure
  | d :: ds, ρ => by
    rw [loopF, loopF]
    refine .obind fun ρ1 => (h ρ1).bind fun o => ?_
    cases o with
    | nx ρ2 u => exact loopF_lift h ds ρ2
    | ct ρ2 u => exact loopF_lift h ds ρ2
    | bk ρ2 u => exact .pure
    | rt d u => exact .pure
theorem loopW_lift {t1 : Ev → Unit → Option (Bool × Unit)} {t2 : Ev → T → Option (Bool × T)} {b1 : Ev → Unit → Option (Out Unit)} {b2 : Ev → T → Option (Out T)} (ht : ∀ ρ, Lf τ (t1 ρ ()) (t2 ρ τ)) (h : ∀ ρ, Lo τ (b1 ρ ()) (b2 ρ τ)) : ∀ n ρ, Lo τ (loopW t1 b1 n ρ ()) (loopW t2 b2 n ρ τ)
  | 0, ρ => .none
  | n + 1, ρ => by
    rw [loopW, loopW]
    refine (ht ρ).lo fun p => .ite ((h ρ).bind fun o => ?_) .pure
    cases o with
    | nx ρ2 u => exact loopW_lift ht h n ρ2
    | ct ρ2 u => exact loopW_lift ht h n ρ2
    | bk ρ2 u => exact .pure
    | rt d u => exact .pure
end
section
variable {T : Type} {gU : Glob Unit} {gT : Glob T} (G : GL gU gT)
include G
mutual
theorem liftS (τ : T) : ∀ (s : S) (ρ : Ev), Lo τ (ex gU s ρ ()) (ex gT s ρ τ)
  | .set i e, ρ => by rw [ex, ex]; exact (liftE G τ e ρ).lo fun p => .ite .pure .none
  | .own i e, ρ => by
    rw [ex, ex]; refine (liftE G τ e ρ).lo fun p => ?_
    cases p <;> first | exact .ite .pure .none | exact .none
  | .unp tg e, ρ => by rw [ex, ex]; exact (liftE G τ e ρ).lo fun p => .omap fun _ => rfl
  | .par2 i j a b, ρ => by rw [ex, ex]; exact (liftE G τ a ρ).lo fun p => (liftE G τ b ρ).lo fun q => .ite .pure .none
  | .par3 i j k a b c, ρ => by rw [ex, ex]; exact (liftE G τ a ρ).lo fun p => (liftE G τ b ρ).lo fun q => (liftE G τ c ρ).lo fun r => .ite .pure .none
  | .stx i k e, ρ => by
    rw [ex, ex]; refine (liftE G τ e ρ).lo fun p => (liftE G τ k ρ).lo fun q => ?_
    cases getO ρ i with
    | none => exact .none
    | some xs => cases q <;> first | exact .omap fun _ => rfl | exact .none
  | .app i e, ρ => by
    rw [ex, ex]; refine (liftE G τ e ρ).lo fun p => ?_
    cases getO ρ i with
    | none => exact .none
    | some xs => exact .ite .pure .none
  | .pop i, ρ => by
    rw [ex, ex]
    cases getO ρ i with
    | none => exact .none
    | some xs => cases xs <;> first | exact .none | exact .pure
  | .setPop j i, ρ => by
    rw [ex, ex]
    cases getO ρ i with
    | none => exact .none
    | some xs => cases xs <;> first | exact .none | exact .ite .pure .none
  | .popAdd j i k, ρ => by
    rw [ex, ex]
    cases getO ρ i with
    | none => exact .none
    | some xs =>
      cases xs with
      | nil => exact .none
      | cons x xs =>
        cases get ρ j with
        | none => exact .none
        | some d =>
          cases d <;> first | exact .none | skip
          dsimp only
          generalize (x :: xs).getLast (by simp) = L
          cases L <;> first | exact .none | skip
          rename_i zs
          dsimp only
          cases atI zs k with
          | none => exact .none
          | some d => cases d <;> first | exact .none | exact .ite .pure .none
  | .aug i o e, ρ => by
    rw [ex, ex]
    cases get ρ i with
    | none => exact .none
    | some d =>
      cases d <;> first | exact .none | skip
      refine (liftE G τ e ρ).lo fun p => ?_
      cases o <;> first | exact .none | skip
      · cases p <;> first | exact .none | exact .pure
      · cases p <;> first | exact .none | exact .pure
  | .dnew i n, ρ => by rw [ex, ex]; exact .ite .pure .none
  | .ddis i ks es, ρ => by rw [ex, ex]; exact (liftEs G τ es ρ).lo fun p => .ite .pure .none
  | .dd1 i n k e, ρ => by
    rw [ex, ex]; refine (liftE G τ k ρ).lo fun p => (liftE G τ e ρ).lo fun q => ?_
    show Lo τ ((keyD n p).bind _) ((keyD n p).bind _)
    cases keyD n p with
    | none => exact .none
    | some kk => exact .ite .pure .none
  | .dcmp i n tg it c k e, ρ => by
    rw [ex, ex]; exact (liftI G τ it ρ).lo fun p => .ite ((dc_lift (fun d => .obind fun ρ1 => (liftE G τ c ρ1).bind fun q => .obind fun b => .ite ((liftE G τ k ρ1).bind fun r => (liftE G τ e ρ1).map fun t => ⟨rfl, rfl⟩) .pure) p []).lo fun r => .ite .pure .none) .none
  | .dst i k e, ρ => by
    rw [ex, ex]; refine (liftE G τ e ρ).lo fun p => (liftE G τ k ρ).lo fun q => ?_
    show Lo τ ((getD ρ i).bind _) ((getD ρ i).bind _)
    cases getD ρ i with
    | none => exact .none
    | some r =>
      show Lo τ ((keyD r.1 q).bind _) ((keyD r.1 q).bind _)
      cases keyD r.1 q with
      | none => exact .none
      | some kk => exact .ite .pure .none
  | .die, ρ => by rw [ex, ex]; exact .none
  | .expr e, ρ => by rw [ex, ex]; exact (liftE G τ e ρ).lom fun _ => rfl
  | .ret e, ρ => by rw [ex, ex]; exact (liftE G τ e ρ).lom fun _ => rfl
  | .retN, ρ => by rw [ex, ex]; exact .pure
  | .ife t a b, ρ => by rw [ex, ex]; exact (liftT G τ t ρ).lo fun p => .ite (liftSs τ a ρ) (liftSs τ b ρ)
  | .whl t b, ρ => by rw [ex, ex]; exact loopW_lift (fun ρ => liftT G τ t ρ) (fun ρ => liftSs τ b ρ) _ ρ
  | .fr tg it b, ρ => by rw [ex, ex]; exact (liftI G τ it ρ).lo fun p => loopF_lift (fun ρ => liftSs τ b ρ) _ ρ
  | .brk, ρ => by rw [ex, ex]; exact .pure
  | .cont, ρ => by rw [ex, ex]; exact .pure
  | .pass, ρ => by rw [ex, ex]; exact .pure
theorem liftSs (τ : T) : ∀ (s : Ss) (ρ : Ev), Lo τ (exs gU s ρ ()) (exs gT s ρ τ)
  | .nil, ρ => by rw [exs, exs]; exact .pure
  | .cons s r, ρ => by
    rw [exs, exs]
    refine (liftS τ s ρ).bind fun o => ?_
    cases o with
    | nx ρ1 u => exact liftSs τ r ρ1
    | rt d u => exact .pure
    | bk ρ1 u => exact .pure
    | ct ρ1 u => exact .pure
  | .frz i r, ρ => by
    rw [exs, exs]
    cases getO ρ i with
    | none =>
      dsimp only
      cases getD ρ i with
      | none => exact liftSs τ r ρ
      | some p => exact liftSs τ r _
    | some xs => exact liftSs τ r _
end
end
/-- the program with no state: what draws is stuck -/
def unitD {T : Type} : Df T → Df Unit
  | .code n ar b => .code n ar b
  | .prim _ => .prim fun _ _ => none
def unitP {T : Type} (p : Pg T) : Pg Unit := ⟨p.defs.map unitD, p.cons, p.dcts⟩
theorem lift_run {T : Type} (p : Pg T) : ∀ (n f : Nat) (ds : List PD) (τ : T), Lf τ (run (unitP p) n f ds ()) (run p n f ds τ)
  | 0, f, ds, τ => .none
  | n + 1, f, ds, τ => by
    have G : GL ⟨run (unitP p) n, fun c => (unitP p).cons[c]?, (unitP p).dct⟩ ⟨run p n, fun c => p.cons[c]?, p.dct⟩ := ⟨fun f ds τ => lift_run p n f ds τ, fun c => rfl, fun c z => rfl⟩
    rw [run, run]
    have e : (unitP p).defs[f]? = (p.defs[f]?).map unitD := List.getElem?_map ..
    rw [e]
    cases p.defs[f]? with
    | none => exact .none
    | some d =>
      cases d with
      | prim q => exact .none
      | code nn ar b =>
        show Lf τ (if ds.length = ar then runBody _ nn b ds () else none) (if ds.length = ar then runBody _ nn b ds τ else none)
        refine .ite (fun a e => ?_) .none
        unfold runBody at e ⊢
        obtain ⟨o, e1, e2⟩ := bind2 e
        rw [liftSs G τ b _ o e1]
        cases o <;> cases e2 <;> rfl
theorem lift_gl {T : Type} (p : Pg T) (n : Nat) : GL ⟨run (unitP p) n, fun c => (unitP p).cons[c]?, (unitP p).dct⟩ ⟨run p n, fun c => p.cons[c]?, p.dct⟩ := ⟨fun f ds τ => lift_run p n f ds τ, fun c => rfl, fun c z => rfl⟩
end Fh
namespace Fh
open PySem L2 PyProof.Rows
/-! ### plain facts about the evaluator -/
/-- a number of less than n bits -/
def Sm (n : Nat) (i : Int) : Prop := i.natAbs < 2 ^ n
theorem Sm.log {n : Nat} {i : Int} (h : Sm n i) : i.natAbs.log2 ≤ n := by
  by_cases z : i.natAbs = 0
  · rw [z]; exact Nat.zero_le _
  · exact Nat.le_of_lt ((Nat.log2_lt z).mpr h)
theorem Sm.okMul {n m : Nat} {i j : Int} (h1 : Sm n i) (h2 : Sm m j) (h : n + m < 1000000) : okMul i j = true := by
  unfold Fh.okMul
  have := h1.log
  have := h2.log
  exact decide_eq_true (by omega)
theorem Sm.mono {n m : Nat} {i : Int} (h : Sm n i) (l : n ≤ m) : Sm m i := Nat.lt_of_lt_of_le h (Nat.pow_le_pow_right (by decide) l)
theorem Sm.mul {n m : Nat} {i j : Int} (h1 : Sm n i) (h2 : Sm m j) : Sm (n + m) (i * j) := by
  unfold Sm at *
  rw [Int.natAbs_mul, Nat.pow_add]
  exact Nat.mul_lt_mul'' h1 h2
theorem Sm.add {n m : Nat} {i j : Int} (h1 : Sm n i) (h2 : Sm m j) : Sm (max n m + 1) (i + j) := by
  unfold Sm at *
  have a1 : 2 ^ n ≤ 2 ^ max n m := Nat.pow_le_pow_right (by decide) (Nat.le_max_left _ _)
  have a2 : 2 ^ m ≤ 2 ^ max n m := Nat.pow_le_pow_right (by decide) (Nat.le_max_right _ _)
  rw [Nat.pow_succ]
  have := Int.natAbs_add_le i j
  omega
theorem Sm.sub {n m : Nat} {i j : Int} (h1 : Sm n i) (h2 : Sm m j) : Sm (max n m + 1) (i - j) := by
  unfold Sm at *
  have a1 : 2 ^ n ≤ 2 ^ max n m := Nat.pow_le_pow_right (by decide) (Nat.le_max_left _ _)
  have a2 : 2 ^ m ≤ 2 ^ max n m := Nat.pow_le_pow_right (by decide) (Nat.le_max_right _ _)
  rw [Nat.pow_succ]
  omega
theorem Sm.le {n : Nat} {i j : Int} (h : Sm n j) (h0 : 0 ≤ i) (h1 : i ≤ j) : Sm n i := by
  unfold Sm at *
  omega

/-- a tuple of ints -/
def tp (t : List Int) : PD := .tuple (t.map .int)
theorem eqv_int (a b : Int) : PyData.eqv (.int a) (.int b) = decide (a = b) := by
  rw [PyData.eqv, Bool.eq_iff_iff]
  simp
theorem eqvAll_ints : ∀ a b : List Int, PyData.eqvAll (a.map .int) (b.map .int) = decide (a = b)
  | [], [] => by simp [PyData.eqvAll]
  | [], _ :: _ => by simp [PyData.eqvAll]
  | _ :: _, [] => by simp [PyData.eqvAll]
  | x :: xs, y :: ys => by
    rw [List.map_cons, List.map_cons, PySem.W.eqv_all_cons, eqvAll_ints, eqv_int, Bool.eq_iff_iff]
    simp
theorem eqv_tp (a b : List Int) : PyData.eqv (tp a) (tp b) = decide (a = b) := by
  unfold tp
  rw [PyData.eqv, eqvAll_ints]
theorem eqvAll_tps : ∀ a b : List (List Int), PyData.eqvAll (a.map tp) (b.map tp) = decide (a = b)
  | [], [] => by simp [PyData.eqvAll]
  | [], _ :: _ => by simp [PyData.eqvAll]
  | _ :: _, [] => by simp [PyData.eqvAll]
  | x :: xs, y :: ys => by
    rw [List.map_cons, List.map_cons, PySem.W.eqv_all_cons, eqvAll_tps, eqv_tp, Bool.eq_iff_iff]
    simp
theorem eqv_tps (a b : List (List Int)) : PyData.eqv (.list (a.map tp)) (.list (b.map tp)) = decide (a = b) := by
  rw [PyData.eqv, eqvAll_tps]
theorem eqv_ints (a b : List Int) : PyData.eqv (.list (a.map .int)) (.list (b.map .int)) = decide (a = b) := by
  rw [PyData.eqv, eqvAll_ints]
theorem shaped_int' (i : Int) : SeqAt.shaped (.int i) = true := by
  simp [SeqAt.shaped, PyData.canLay0, PyData.depth]
theorem shaped_bool (i : Bool) : SeqAt.shaped (.bool i) = true := by
  simp [SeqAt.shaped, PyData.canLay0, PyData.depth]
theorem depth_tp (t : List Int) : (tp t).depth = 1 := by
  rw [tp, PyData.depth, depthAll_ints]
theorem lay_tp (t : List Int) : (tp t).canLay0 = true := by
  rw [tp, PyData.canLay0, layAll_ints]
theorem shaped_tp (t : List Int) : SeqAt.shaped (tp t) = true := by
  rw [SeqAt.shaped, lay_tp, depth_tp]
  rfl
theorem depthAll_tps : ∀ ts : List (List Int), PyData.depthAll (ts.map tp) ≤ 1
  | [] => by simp [PyData.depthAll]
  | t :: ts => by
    rw [List.map_cons, PyData.depthAll, depth_tp]
    have := depthAll_tps ts
    omega
theorem layAll_tps : ∀ ts : List (List Int), PyData.canLayAll0 (ts.map tp) = true
  | [] => rfl
  | t :: ts => by rw [List.map_cons, PyData.canLayAll0, lay_tp, layAll_tps]; rfl
theorem shaped_tps (ts : List (List Int)) : SeqAt.shaped (.list (ts.map tp)) = true := by
  rw [SeqAt.shaped, PyData.canLay0, layAll_tps, PyData.depth, Bool.true_and]
  have := depthAll_tps ts
  exact decide_eq_true (by omega)
theorem shaped_ints (ts : List Int) : SeqAt.shaped (.list (ts.map .int)) = true := by
  rw [SeqAt.shaped, PyData.canLay0, layAll_ints, PyData.depth, depthAll_ints]
  rfl
theorem any_eqv_tps (t : List Int) : ∀ ts : List (List Int), ((ts.map tp).any fun z => PyData.eqv z (tp t)) = decide (t ∈ ts)
  | [] => by simp
  | u :: us => by
    rw [List.map_cons, List.any_cons, any_eqv_tps t us, eqv_tp, Bool.eq_iff_iff, Bool.or_eq_true, decide_eq_true_eq, decide_eq_true_eq, decide_eq_true_eq, List.mem_cons]
    exact ⟨fun h => h.imp Eq.symm id, fun h => h.imp Eq.symm id⟩

/-! ### sorting ints -/
def sI (l : List Int) : List Int := insSort (fun a b => decide (a ≤ b)) l
theorem ins_map {α β : Type} {r : α → α → Bool} {s : β → β → Bool} (f : α → β) (x : α) : ∀ l : List α, (∀ y ∈ l, s (f x) (f y) = r x y) → insSort.ins s (f x) (l.map f) = (insSort.ins r x l).map f
  | [], _ => rfl
  | y :: l, h => by
    rw [List.map_cons, insSort.ins, insSort.ins, h y List.mem_cons_self]
    split
    · rfl
    · rw [List.map_cons, ins_map f x l fun z hz => h z (List.mem_cons_of_mem _ hz)]
theorem insSort_map {α β : Type} {r : α → α → Bool} {s : β → β → Bool} (f : α → β) : ∀ l : List α, (∀ x ∈ l, ∀ y ∈ l, s (f x) (f y) = r x y) → insSort s (l.map f) = (insSort r l).map f
  | [], _ => rfl
  | x :: l, h => by
    rw [List.map_cons, insSort, insSort, insSort_map f l fun a ha b hb => h a (List.mem_cons_of_mem _ ha) b (List.mem_cons_of_mem _ hb)]
    refine ins_map f x _ fun y hy => h x List.mem_cons_self y (List.mem_cons_of_mem _ ?_)
    exact (insSort_perm l).mem_iff.mp hy
theorem sortD_ints (l : List Int) : sortD (l.map .int) = (sI l).map .int :=
  insSort_map PyData.int l fun x _ y _ => by
    show (!pLt (.int y) (.int x)) = decide (x ≤ y)
    rw [pLt, Bool.eq_iff_iff]
    simp
theorem sortable_ints (l : List Int) : sortable (l.map .int) = true := by
  unfold sortable
  have : (l.map PyData.int).all isInt = true := by
    rw [List.all_map]
    exact List.all_eq_true.mpr fun _ _ => rfl
  rw [this]
  rfl
theorem le_total : PySem.W.TotalLe fun a b : Int => decide (a ≤ b) :=
  ⟨fun a b c h1 h2 => decide_eq_true (Int.le_trans (of_decide_eq_true h1) (of_decide_eq_true h2)), fun a b => (Int.le_total _ _).imp decide_eq_true decide_eq_true⟩
theorem sI_pw (l : List Int) : (sI l).Pairwise (· ≤ ·) := (insSort_pw le_total l).imp fun h => of_decide_eq_true h
theorem sI_perm (l : List Int) : (sI l).Perm l := insSort_perm l
theorem sI_eq {l m : List Int} (h : l.Perm m) (hm : m.Pairwise (· ≤ ·)) : sI l = m :=
  ((sI_perm l).trans h).eq_of_pairwise (fun a b _ _ h1 h2 => Int.le_antisymm h1 h2) (sI_pw l) hm
theorem sI_congr {l m : List Int} (h : l.Perm m) : sI l = sI m := sI_eq (h.trans (sI_perm m).symm) (sI_pw m)
theorem sI_len (l : List Int) : (sI l).length = l.length := (sI_perm l).length_eq

/-! ### sorted(set(..)) -/
def setL (ts : List (List Int)) : List (List Int) := insSort (fun a b => decide (TS.code (bdOf ts) a ≤ TS.code (bdOf ts) b)) (dedup ts)
theorem intsOfT_tp (t : List Int) : intsOfT (tp t) = some t := by
  show intsOfT.go (t.map .int) = some t
  induction t with
  | nil => rfl
  | cons i t ih => rw [List.map_cons, intsOfT.go, ih]; rfl
theorem tupsOf_tps : ∀ ts : List (List Int), tupsOf (ts.map tp) = some ts
  | [] => rfl
  | t :: ts => by
    rw [List.map_cons, tupsOf, intsOfT_tp, tupsOf_tps ts]
    rfl
theorem bd_mono1 : ∀ (t : List Int) (m : Int), m ≤ t.foldl (fun m i => if i < m then m else i + 1) m ∧ ∀ i ∈ t, i < t.foldl (fun m i => if i < m then m else i + 1) m
  | [], m => ⟨Int.le_refl _, fun _ h => by cases h⟩
  | x :: t, m => by
    rw [List.foldl_cons]
    obtain ⟨h1, h2⟩ := bd_mono1 t (if x < m then m else x + 1)
    have h3 : m ≤ (if x < m then m else x + 1) ∧ x < (if x < m then m else x + 1) := by split <;> omega
    refine ⟨by omega, fun i hi => ?_⟩
    rcases List.mem_cons.mp hi with rfl | hi
    · omega
    · exact h2 i hi
theorem bd_mono2 : ∀ (ts : List (List Int)) (m : Int), m ≤ ts.foldl (fun m t => t.foldl (fun m i => if i < m then m else i + 1) m) m ∧ ∀ t ∈ ts, ∀ i ∈ t, i < ts.foldl (fun m t => t.foldl (fun m i => if i < m then m else i + 1) m) m
  | [], m => ⟨Int.le_refl _, fun _ h => by cases h⟩
  | t :: ts, m => by
    rw [List.foldl_cons]
    obtain ⟨h1, h2⟩ := bd_mono2 ts (t.foldl (fun m i => if i < m then m else i + 1) m)
    obtain ⟨h3, h4⟩ := bd_mono1 t m
    refine ⟨by omega, fun u hu i hi => ?_⟩
    rcases List.mem_cons.mp hu with rfl | hu
    · have := h4 i hi
      omega
    · exact h2 u hu i hi
theorem bdOf_lt {ts : List (List Int)} {t : List Int} {i : Int} (ht : t ∈ ts) (hi : i ∈ t) : i < bdOf ts := (bd_mono2 ts 0).2 t ht i hi
theorem sortSet_ok {ts : List (List Int)} {d : Nat} (hd : 1 ≤ d) (hl : ∀ t ∈ ts, t.length = d) (h0 : ∀ t ∈ ts, ∀ i ∈ t, 0 ≤ i) (h64 : ts.length < 64) : sortSet (ts.map tp) = some ((setL ts).map tp) := by
  unfold sortSet
  rw [tupsOf_tps]
  show (if _ then some _ else none) = _
  rw [if_pos]
  · rfl
  rw [Bool.and_eq_true, Bool.and_eq_true, decide_eq_true_eq]
  refine ⟨⟨h64, ?_⟩, ?_⟩
  · cases ts with
    | nil => rfl
    | cons t ts =>
      simp only [Bool.and_eq_true, decide_eq_true_eq]
      have e := hl t List.mem_cons_self
      exact ⟨by omega, List.all_eq_true.mpr fun u hu => decide_eq_true ((hl u hu).trans e.symm)⟩
  · refine List.all_eq_true.mpr fun t ht => List.all_eq_true.mpr fun i hi => ?_
    rw [Bool.and_eq_true, decide_eq_true_eq, decide_eq_true_eq]
    exact ⟨h0 t ht i hi, bdOf_lt ht hi⟩
theorem setL_perm (ts : List (List Int)) : (setL ts).Perm (dedup ts) := insSort_perm _
theorem setL_mem {ts : List (List Int)} {t : List Int} : t ∈ setL ts ↔ t ∈ ts := by rw [(setL_perm ts).mem_iff, dedup_mem]
theorem dedup_filter (p : List Int → Bool) : ∀ l : List (List Int), (dedup l).filter p = dedup (l.filter p)
  | [] => rfl
  | x :: r => by
    rw [dedup]
    by_cases hp : p x = true
    · rw [List.filter_cons_of_pos hp, dedup]
      have e : (r.filter p).elem x = r.elem x := by
        rw [Bool.eq_iff_iff, List.elem_iff, List.elem_iff, List.mem_filter]
        exact ⟨fun h => h.1, fun h => ⟨h, hp⟩⟩
      rw [e]
      split
      · exact dedup_filter p r
      · rw [List.filter_cons_of_pos hp, dedup_filter p r]
    · rw [List.filter_cons_of_neg hp]
      split
      · exact dedup_filter p r
      · rw [List.filter_cons_of_neg hp, dedup_filter p r]
theorem setL_filter (p : List Int → Bool) (ts : List (List Int)) : ((setL ts).filter p).length = (dedup (ts.filter p)).length := by
  rw [← dedup_filter]
  exact ((setL_perm ts).filter p).length_eq

/-! ### loops -/
section
variable {T : Type} {g : Glob T}
theorem exs_nx {s : S} {r : Ss} {ρ ρ1 : Ev} {τ τ1 : T} (h : ex g s ρ τ = some (.nx ρ1 τ1)) : exs g (.cons s r) ρ τ = exs g r ρ1 τ1 := by
  rw [exs, h]
  rfl
theorem exs_rt {s : S} {r : Ss} {ρ : Ev} {τ τ1 : T} {d : PD} (h : ex g s ρ τ = some (.rt d τ1)) : exs g (.cons s r) ρ τ = some (.rt d τ1) := by
  rw [exs, h]
  rfl
/-- a for loop, by what holds ahead of each turn -/
theorem loopF_inv {bd : PD → Ev → Option Ev} {body : Ev → T → Option (Out T)} (I : Nat → Ev → T → Prop) : ∀ (ds : List PD) (i : Nat) (ρ : Ev) (τ : T), (∀ (j : Nat) (d : PD) (ρ : Ev) (τ : T), ds[j]? = some d → I (i + j) ρ τ → ∃ ρ1 ρ2 τ2, bd d ρ = some ρ1 ∧ (body ρ1 τ = some (.nx ρ2 τ2) ∨ body ρ1 τ = some (.ct ρ2 τ2)) ∧ I (i + j + 1) ρ2 τ2) → I i ρ τ →
    ∃ ρ' τ', loopF bd body ds ρ τ = some (.nx ρ' τ') ∧ I (i + ds.length) ρ' τ'
  | [], i, ρ, τ, _, h => ⟨ρ, τ, rfl, h⟩
  | d :: ds, i, ρ, τ, hs, h => by
    obtain ⟨ρ1, ρ2, τ2, e1, e2, h2⟩ := hs 0 d ρ τ rfl h
    obtain ⟨ρ', τ', e3, h3⟩ := loopF_inv I ds (i + 1) ρ2 τ2 (fun j d ρ τ hj hi => by
      have := hs (j + 1) d ρ τ (by simpa using hj) (by rw [show i + (j + 1) = i + 1 + j by omega]; exact hi)
      rw [show i + (j + 1) + 1 = i + 1 + j + 1 by omega] at this
      exact this) (by rw [show i + 0 + 1 = i + 1 by omega] at h2; exact h2)
    refine ⟨ρ', τ', ?_, by rw [List.length_cons, show i + (ds.length + 1) = i + 1 + ds.length by omega]; exact h3⟩
    rw [loopF, e1]
    show (body ρ1 τ).bind _ = _
    rcases e2 with e2 | e2 <;> rw [e2] <;> exact e3
/-- a while loop, by what holds ahead of each turn, with a measure -/
theorem loopW_inv {t : Ev → T → Option (Bool × T)} {body : Ev → T → Option (Out T)} (I : Nat → Ev → T → Prop)
    (hs : ∀ (m : Nat) (ρ : Ev) (τ : T), I m ρ τ → ∃ τ1, (t ρ τ = some (false, τ1) ∧ I 0 ρ τ1) ∨ (t ρ τ = some (true, τ1) ∧ ∃ ρ2 τ2 m', (body ρ τ1 = some (.nx ρ2 τ2) ∨ body ρ τ1 = some (.ct ρ2 τ2)) ∧ m' < m ∧ I m' ρ2 τ2)) :
    ∀ (m n : Nat) (ρ : Ev) (τ : T), m < n → I m ρ τ → ∃ ρ' τ', loopW t body n ρ τ = some (.nx ρ' τ') ∧ I 0 ρ' τ' ∧ ∃ τ0, t ρ' τ0 = some (false, τ')
  | m, 0, ρ, τ, h, _ => absurd h (Nat.not_lt_zero _)
  | m, n + 1, ρ, τ, h, hI => by
    obtain ⟨τ1, h1 | ⟨e1, ρ2, τ2, m', e2, hm, h2⟩⟩ := hs m ρ τ hI
    · exact ⟨ρ, τ1, by rw [loopW, h1.1]; rfl, h1.2, τ, h1.1⟩
    · obtain ⟨ρ', τ', e3, h3⟩ := loopW_inv I hs m' n ρ2 τ2 (by omega) h2
      refine ⟨ρ', τ', ?_, h3⟩
      rw [loopW, e1, Option.bind_some]
      dsimp only
      rw [if_pos rfl]
      rcases e2 with e2 | e2 <;> rw [e2] <;> exact e3
theorem big_fuel {m : Nat} (h : m < 2 ^ 4096) : m < FUEL := h
theorem rangeD_get? {lo : Int} {n j : Nat} {d : PD} (h : (rangeD lo n)[j]? = some d) : j < n ∧ d = .int (lo + j) := by
  have h1 : j < n := by
    have := (List.getElem?_eq_some_iff.mp h).1
    rw [rangeD_len] at this
    exact this
  rw [rangeD_get n lo j h1] at h
  exact ⟨h1, (Option.some.inj h).symm⟩
end
end Fh
namespace Fh
open PySem L2 PyProof.Rows
theorem sm3 : Sm 2 3 := by unfold Sm; decide
/-- tuples' order -/
def ltI : List Int → List Int → Bool
  | x :: xs, y :: ys => if x = y then ltI xs ys else decide (x < y)
  | [], _ :: _ => true
  | _, [] => false
theorem pLtA_ints : ∀ a b : List Int, pLtA (a.map .int) (b.map .int) = ltI a b
  | [], [] => rfl
  | [], _ :: _ => rfl
  | _ :: _, [] => rfl
  | x :: xs, y :: ys => by
    rw [List.map_cons, List.map_cons, pLtA, ltI, eqv_int, pLtA_ints, pLt]
    by_cases h : x = y <;> simp [h]
def sortT (l : List (List Int)) : List (List Int) := insSort (fun a b => !ltI b a) l
theorem sortD_tps (l : List (List Int)) : sortD (l.map tp) = (sortT l).map tp :=
  insSort_map tp l fun x _ y _ => by
    show (!pLt (tp y) (tp x)) = !ltI y x
    rw [tp, tp, pLt, pLtA_ints]
theorem sortable_tps {l : List (List Int)} (h : ∀ t ∈ l, t ≠ []) : sortable (l.map tp) = true := by
  have : (l.map tp).all isIntT = true := by
    rw [List.all_map]
    refine List.all_eq_true.mpr fun t ht => ?_
    cases t with
    | nil => exact absurd rfl (h [] ht)
    | cons x xs =>
      show (isInt (.int x) && (xs.map PyData.int).all isInt) = true
      rw [List.all_map]
      exact Bool.and_eq_true_iff.mpr ⟨rfl, List.all_eq_true.mpr fun _ _ => rfl⟩
  unfold sortable
  rw [this]
  simp
theorem in_tps (t : List Int) (ts : List (List Int)) : cop .nin (tp t) (.list (ts.map tp)) = some (!ts.elem t) := by
  show (if SeqAt.shaped (tp t) && SeqAt.shaped (.list (ts.map tp)) then some (!(ts.map tp).any fun z => PyData.eqv z (tp t)) else none) = _
  rw [shaped_tp, shaped_tps, any_eqv_tps]
  by_cases h : t ∈ ts
  · simp [h, List.elem_iff]
  · simp [h]
theorem cop_le (a b : Int) : cop .le (.int a) (.int b) = some (decide (a ≤ b)) := rfl
theorem cop_lt (a b : Int) : cop .lt (.int a) (.int b) = some (decide (a < b)) := rfl
def rangeI (lo : Int) : Nat → List Int
  | 0 => []
  | n + 1 => lo :: rangeI (lo + 1) n
theorem rangeD_I : ∀ (n : Nat) (lo : Int), rangeD lo n = (rangeI lo n).map .int
  | 0, _ => rfl
  | n + 1, lo => by rw [rangeD, rangeI, List.map_cons, rangeD_I n]
theorem rangeI_mem : ∀ {n : Nat} {lo i : Int}, i ∈ rangeI lo n → lo ≤ i ∧ i < lo + n
  | 0, _, _, h => by cases h
  | n + 1, lo, i, h => by
    rw [rangeI] at h
    rcases List.mem_cons.mp h with rfl | h
    · omega
    · have := rangeI_mem h
      omega
theorem rangeI_len : ∀ (n : Nat) (lo : Int), (rangeI lo n).length = n
  | 0, _ => rfl
  | n + 1, lo => by rw [rangeI, List.length_cons, rangeI_len n]
theorem lcLoop_map {T : Type} {α : Type} {step : PD → T → Option (Option PD × T)} {τ : T} (e : α → PD) (f : α → Option PD) : ∀ l : List α, (∀ a ∈ l, step (e a) τ = some (f a, τ)) → lcLoop step (l.map e) τ = some (l.filterMap f, τ)
  | [], _ => rfl
  | a :: l, h => by
    rw [List.map_cons, lcLoop, h a List.mem_cons_self, Option.bind_some]
    dsimp only
    rw [lcLoop_map e f l fun b hb => h b (List.mem_cons_of_mem _ hb), Option.bind_some, List.filterMap_cons]
    cases f a <;> rfl
theorem ev_lc_map {T : Type} {α : Type} {g : Glob T} {tg : Tg} {it : Ir} {c elt : E} {ρ : Ev} {τ : T} (l : List α) (e : α → PD) (f : α → Option PD) (hit : items g it ρ τ = some (l.map e, τ)) (hl : l.length ≤ sizeLine)
    (hs : ∀ a ∈ l, ∃ ρ1, bindT tg (e a) (wipeE ρ tg.slots) = some ρ1 ∧ ((evT g c ρ1 τ = some (false, τ) ∧ f a = none) ∨ (evT g c ρ1 τ = some (true, τ) ∧ ∃ x, ev g elt ρ1 τ = some (x, τ) ∧ f a = some x))) :
    ev g (.lc tg it c elt) ρ τ = some (.list (l.filterMap f), τ) := by
  rw [ev, hit, Option.bind_some]
  dsimp only
  rw [if_pos (by rw [List.length_map]; exact decide_eq_true hl), lcLoop_map e f l]
  · rfl
  · intro d hd
    obtain ⟨ρ1, e1, h⟩ := hs d hd
    rw [e1, Option.bind_some]
    rcases h with ⟨h1, h2⟩ | ⟨h1, x, h2, h3⟩
    · unfold evT at h1
      obtain ⟨p, e2, e3⟩ := bind2 h1
      obtain ⟨b, e4, e5⟩ := Option.map_eq_some_iff.mp e3
      cases e5
      rw [e2, Option.bind_some, e4, h2]
      rfl
    · unfold evT at h1
      obtain ⟨p, e2, e3⟩ := bind2 h1
      obtain ⟨b, e4, e5⟩ := Option.map_eq_some_iff.mp e3
      cases e5
      rw [e2, Option.bind_some, e4, h3]
      show Option.map _ (ev g elt ρ1 p.2) = _
      rw [h2]
      rfl
theorem filterMap_len {α : Type} (p : α → Bool) (e : α → PD) : ∀ l : List α, (l.filterMap fun a => if p a then some (e a) else none).length = (l.filter p).length
  | [] => rfl
  | a :: l => by
    rw [List.filterMap_cons, List.filter_cons]
    cases h : p a with
    | true => simp [filterMap_len p e l]
    | false => simp [filterMap_len p e l]
theorem get_mem {α : Type} {l : List α} {v : Int} (h0 : 0 ≤ v) (h1 : v < (l.length : Int)) : ∃ a ∈ l, atI l v = some a := by
  have h2 : v.toNat < l.length := by omega
  refine ⟨l[v.toNat], List.getElem_mem h2, ?_⟩
  have q := atI_nat (List.getElem?_eq_getElem h2)
  rw [Int.toNat_of_nonneg h0] at q
  exact q
theorem atI_map {α β : Type} (f : α → β) (l : List α) (i : Int) : atI (l.map f) i = (atI l i).map f := by
  unfold atI
  rw [List.length_map]
  cases ixN l.length i with
  | none => rfl
  | some j => simp
theorem cop_ne {d e : PD} (h1 : SeqAt.shaped d = true) (h2 : SeqAt.shaped e = true) : cop .ne d e = some (!PyData.eqv d e) := by
  show (if SeqAt.shaped d && SeqAt.shaped e then _ else _) = _
  rw [h1, h2]; rfl
theorem cop_eq {d e : PD} (h1 : SeqAt.shaped d = true) (h2 : SeqAt.shaped e = true) : cop .eq d e = some (PyData.eqv d e) := by
  show (if SeqAt.shaped d && SeqAt.shaped e then _ else _) = _
  rw [h1, h2]; rfl
theorem pix_nat {l : List PD} {j : Nat} {d : PD} (h : l[j]? = some d) : pix (.list l) (.int (j : Int)) = some d := atI_nat h
theorem items_rng1 {T : Type} {g : Glob T} {a : E} {ρ : Ev} {τ τ' : T} {j : Int} (h : ev g a ρ τ = some (.int j, τ')) (hs : smallR j = true) : items g (.rng1 a) ρ τ = some (rangeD 0 j.toNat, τ') := by
  rw [items, h, Option.bind_some]
  dsimp only
  rw [if_pos hs]
theorem ev_len {T : Type} {g : Glob T} {a : E} {ρ : Ev} {τ τ' : T} {l : List PD} (h : ev g a ρ τ = some (.list l, τ')) : ev g (.bi .len (.cons a .nil)) ρ τ = some (.int l.length, τ') := by
  rw [ev, evs, h, Option.bind_some, evs]
  rfl
theorem ev_sub {T : Type} {g : Glob T} {a b : E} {ρ : Ev} {τ τ1 τ2 : T} {i j : Int} (h1 : ev g a ρ τ = some (.int i, τ1)) (h2 : ev g b ρ τ1 = some (.int j, τ2)) : ev g (.bin .sub a b) ρ τ = some (.int (i - j), τ2) := by
  rw [ev, h1, Option.bind_some]
  dsimp only
  rw [h2]
  rfl
theorem ev_int {T : Type} {g : Glob T} {ρ : Ev} {τ : T} {i : Int} : ev g (.int i) ρ τ = some (.int i, τ) := by rw [ev]
theorem ev_v {T : Type} {g : Glob T} {ρ : Ev} {τ : T} {i : Nat} {d : PD} (h : get ρ i = some d) : ev g (.v i) ρ τ = some (d, τ) := by rw [ev, h]; rfl
theorem in_tps2 (t : List Int) (ts : List (List Int)) : cop .inn (tp t) (.list (ts.map tp)) = some (ts.elem t) := by
  show (if SeqAt.shaped (tp t) && SeqAt.shaped (.list (ts.map tp)) then some ((ts.map tp).any fun z => PyData.eqv z (tp t)) else none) = _
  rw [shaped_tp, shaped_tps, any_eqv_tps]
  by_cases h : t ∈ ts
  · simp [h, List.elem_iff]
  · simp [h]
theorem ev_in {T : Type} {g : Glob T} {a b : E} {ρ : Ev} {τ τ1 τ2 : T} {d e : PD} {c : Bool} (h1 : ev g a ρ τ = some (d, τ1)) (h2 : ev g b ρ τ1 = some (e, τ2)) (h : cop .inn d e = some c) : ev g (.cmp .inn a b) ρ τ = some (.bool c, τ2) := by
  rw [ev, h1, Option.bind_some]
  dsimp only
  rw [h2, Option.bind_some]
  dsimp only
  rw [h]
  rfl
theorem ev_call1 {T : Type} {g : Glob T} {f : Nat} {a : E} {ρ : Ev} {τ τ1 : T} {d : PD} {r : Option (PD × T)} (h1 : ev g a ρ τ = some (d, τ1)) (h : g.call f [d] τ1 = r) : ev g (.call f (.cons a .nil)) ρ τ = r := by
  rw [ev, evs, h1, Option.bind_some, evs]
  exact h
theorem small_smallR {k : Int} (h0 : -1000000 ≤ k) (h1 : k ≤ 1000000) : smallR k = true := by
  unfold smallR
  rw [Bool.and_eq_true, decide_eq_true_eq, decide_eq_true_eq]
  omega
theorem dr0 {m : Int} (τ : TA') (h0 : 0 < m) (h1 : m < 2 ^ 2000) : ∃ v τ', drawQ [tokD, .int m] τ = some (.int v, τ') ∧ 0 ≤ v ∧ v < m := by
  refine drawQ_ok τ h0 ?_
  by_cases z : m.natAbs = 0
  · rw [z]; decide
  · have : m.natAbs.log2 < 2000 := (Nat.log2_lt z).mpr (by omega)
    omega
end Fh
namespace Fh
open PySem L2 PyProof.Rows
/-! ### a def's run by its body -/
section
variable {T : Type} {p : Pg T} {n f nn ar : Nat} {body : Ss} {args : List PD} {τ τ' : T} {d : PD}
theorem run_rt (h : p.defs[f]? = some (.code nn ar body)) (hl : args.length = ar) (e : exs ⟨run p n, fun c => p.cons[c]?, p.dct⟩ body (args.map (fun d => some (Sl.sh d)) ++ List.replicate (nn - args.length) none) τ = some (.rt d τ')) : run p (n + 1) f args τ = some (d, τ') := by
  rw [run, h]
  show (if args.length = ar then _ else _) = _
  rw [if_pos hl, runBody, e]
  rfl
theorem run_nx {ρ : Ev} (h : p.defs[f]? = some (.code nn ar body)) (hl : args.length = ar) (e : exs ⟨run p n, fun c => p.cons[c]?, p.dct⟩ body (args.map (fun d => some (Sl.sh d)) ++ List.replicate (nn - args.length) none) τ = some (.nx ρ τ')) : run p (n + 1) f args τ = some (.none, τ') := by
  rw [run, h]
  show (if args.length = ar then _ else _) = _
  rw [if_pos hl, runBody, e]
  rfl
end
section
variable {T : Type} {g : Glob T}
theorem exs_if {t : E} {a b r : Ss} {ρ : Ev} {τ τ1 : T} {c : Bool} (h : evT g t ρ τ = some (c, τ1)) : exs g (.cons (.ife t a b) r) ρ τ = ((if c then exs g a ρ τ1 else exs g b ρ τ1).bind fun | .nx ρ1 τ2 => exs g r ρ1 τ2 | o => some o) := by
  rw [exs, ex, h]
  cases c <;> rfl
theorem exs_if0 {t : E} {a r : Ss} {ρ : Ev} {τ τ1 : T} (h : evT g t ρ τ = some (false, τ1)) : exs g (.cons (.ife t a .nil) r) ρ τ = exs g r ρ τ1 := by
  rw [exs_if h, if_neg Bool.false_ne_true, exs]
  rfl
theorem exs_fr {s : Tg} {it : Ir} {b r : Ss} {ρ ρ' : Ev} {τ τ1 τ' : T} {ds : List PD} (h : items g it ρ τ = some (ds, τ1)) (hl : loopF (bindT s) (exs g b) ds ρ τ1 = some (.nx ρ' τ')) : exs g (.cons (.fr s it b) r) ρ τ = exs g r ρ' τ' := by
  rw [exs, ex, h, Option.bind_some]
  dsimp only
  rw [hl]
  rfl
theorem exs_frz {i : Nat} {r : Ss} {ρ : Ev} {τ : T} {xs : List PD} (h : getO ρ i = some xs) : exs g (.frz i r) ρ τ = exs g r (put ρ i (.sh (.list xs))) τ := by
  rw [exs, h]
theorem exs_frz0 {i : Nat} {r : Ss} {ρ : Ev} {τ : T} (h : getO ρ i = none) (h2 : getD ρ i = none := by rfl) : exs g (.frz i r) ρ τ = exs g r ρ τ := by
  rw [exs, h]
  dsimp only
  rw [h2]
theorem exs_frzD {i n : Nat} {r : Ss} {ρ : Ev} {τ : T} {kvs : List (List L2.Key × PD)} (h : getO ρ i = none) (h2 : getD ρ i = some (n, kvs)) : exs g (.frz i r) ρ τ = exs g r (put ρ i (.sh (dictD n (mPD n kvs)))) τ := by
  rw [exs, h]
  dsimp only
  rw [h2]
theorem exs_whl {t : E} {b r : Ss} {ρ ρ' : Ev} {τ τ' : T} (h : loopW (fun ρ τ => evT g t ρ τ) (exs g b) FUEL ρ τ = some (.nx ρ' τ')) : exs g (.cons (.whl t b) r) ρ τ = exs g r ρ' τ' := by
  rw [exs, ex, h]
  rfl
theorem items_seq {e : E} {ρ : Ev} {τ τ' : T} {d : PD} {xs : List PD} (h : ev g e ρ τ = some (d, τ')) (hd : itemsOf d = some xs) : items g (.seq e) ρ τ = some (xs, τ') := by
  rw [items, h, Option.bind_some]
  dsimp only
  rw [hd]
  rfl
/-- a for loop that folds: the environment is told by what is held -/
theorem loopF_fold {α β : Type} {bd : PD → Ev → Option Ev} {body : Ev → T → Option (Out T)} (E : β → Option Sl → Ev) (e : α → PD) (f : β → α → β) (P : β → Prop) {τ : T} : ∀ (l : List α) (b : β) (x : Option Sl), P b →
    (∀ a ∈ l, ∀ b x, P b → P (f b a) ∧ ∃ ρ1 y, bd (e a) (E b x) = some ρ1 ∧ (body ρ1 τ = some (.nx (E (f b a) y) τ) ∨ body ρ1 τ = some (.ct (E (f b a) y) τ))) →
    ∃ y, loopF bd body (l.map e) (E b x) τ = some (.nx (E (l.foldl f b) y) τ) ∧ P (l.foldl f b)
  | [], b, x, hp, _ => ⟨x, rfl, hp⟩
  | a :: l, b, x, hp, h => by
    obtain ⟨hp1, ρ1, y, e1, e2⟩ := h a List.mem_cons_self b x hp
    obtain ⟨z, e3, h3⟩ := loopF_fold E e f P l (f b a) y hp1 fun c hc => h c (List.mem_cons_of_mem _ hc)
    refine ⟨z, ?_, h3⟩
    rw [List.map_cons, loopF, e1]
    show (body ρ1 τ).bind _ = _
    rcases e2 with e2 | e2 <;> rw [e2] <;> exact e3
end

section
variable {T : Type}
/-- a for loop that folds, with what holds ahead of each turn -/
theorem loopF_foldN {α β : Type} {bd : PD → Ev → Option Ev} {body : Ev → T → Option (Out T)} (E : β → Option Sl → Ev) (e : α → PD) (f : β → α → β) (P : Nat → β → Prop) {τ : T} (N : Nat) : ∀ (l : List α) (i : Nat) (b : β) (x : Option Sl), i + l.length ≤ N → P i b →
    (∀ a ∈ l, ∀ i b x, i < N → P i b → P (i + 1) (f b a) ∧ ∃ ρ1 y, bd (e a) (E b x) = some ρ1 ∧ (body ρ1 τ = some (.nx (E (f b a) y) τ) ∨ body ρ1 τ = some (.ct (E (f b a) y) τ))) →
    ∃ y, loopF bd body (l.map e) (E b x) τ = some (.nx (E (l.foldl f b) y) τ) ∧ P (i + l.length) (l.foldl f b)
  | [], i, b, x, _, hp, _ => ⟨x, rfl, hp⟩
  | a :: l, i, b, x, hN, hp, h => by
    rw [List.length_cons] at hN
    obtain ⟨hp1, ρ1, y, e1, e2⟩ := h a List.mem_cons_self i b x (by omega) hp
    obtain ⟨z, e3, h3⟩ := loopF_foldN E e f P N l (i + 1) (f b a) y (by omega) hp1 fun c hc => h c (List.mem_cons_of_mem _ hc)
    refine ⟨z, ?_, by rw [List.length_cons, show i + (l.length + 1) = i + 1 + l.length by omega]; exact h3⟩
    rw [List.map_cons, loopF, e1]
    show (body ρ1 τ).bind _ = _
    rcases e2 with e2 | e2 <;> rw [e2] <;> exact e3
end

/-! ### whole 2 x 2 matrices -/
structure Mx where
  a : Int
  b : Int
  c : Int
  d : Int
  deriving DecidableEq
namespace Mx
def pd (m : Mx) : PD := .tuple [.int m.a, .int m.b, .int m.c, .int m.d]
def mul (m n : Mx) : Mx := ⟨m.a * n.a + m.b * n.c, m.a * n.b + m.b * n.d, m.c * n.a + m.d * n.c, m.c * n.b + m.d * n.d⟩
def one : Mx := ⟨1, 0, 0, 1⟩
def neg (m : Mx) : Mx := ⟨-m.a, -m.b, -m.c, -m.d⟩
def inv (m : Mx) : Mx := ⟨m.d, -m.b, -m.c, m.a⟩
def det (m : Mx) : Int := m.a * m.d - m.b * m.c
def isNeg (m : Mx) : Bool := decide (m.c < 0) || (decide (m.c = 0) && decide (m.d < 0))
def nrm (m : Mx) : Mx := if m.isNeg then m.neg else m
structure Sm (n : Nat) (m : Mx) : Prop where
  a : Fh.Sm n m.a
  b : Fh.Sm n m.b
  c : Fh.Sm n m.c
  d : Fh.Sm n m.d
theorem Sm.mono {n k : Nat} {m : Mx} (h : m.Sm n) (l : n ≤ k) : m.Sm k := ⟨h.a.mono l, h.b.mono l, h.c.mono l, h.d.mono l⟩
theorem Sm.mul {n k : Nat} {x y : Mx} (h : x.Sm n) (h2 : y.Sm k) : (x.mul y).Sm (n + k + 1) := by
  refine ⟨?_, ?_, ?_, ?_⟩
  · exact ((h.a.mul h2.a).add (h.b.mul h2.c)).mono (by omega)
  · exact ((h.a.mul h2.b).add (h.b.mul h2.d)).mono (by omega)
  · exact ((h.c.mul h2.a).add (h.d.mul h2.c)).mono (by omega)
  · exact ((h.c.mul h2.b).add (h.d.mul h2.d)).mono (by omega)
theorem sm_neg {n : Nat} {i : Int} (h : Fh.Sm n i) : Fh.Sm n (-i) := by
  unfold Fh.Sm at *
  omega
theorem Sm.neg {n : Nat} {x : Mx} (h : x.Sm n) : x.neg.Sm n := ⟨sm_neg h.a, sm_neg h.b, sm_neg h.c, sm_neg h.d⟩
theorem Sm.inv {n : Nat} {x : Mx} (h : x.Sm n) : x.inv.Sm n := ⟨h.d, sm_neg h.b, sm_neg h.c, h.a⟩
theorem Sm.nrm {n : Nat} {x : Mx} (h : x.Sm n) : x.nrm.Sm n := by
  unfold Mx.nrm
  split
  · exact h.neg
  · exact h
theorem mul_assoc (x y z : Mx) : (x.mul y).mul z = x.mul (y.mul z) := by
  simp only [mul, mk.injEq]
  refine ⟨?_, ?_, ?_, ?_⟩ <;> grind
theorem one_mul (x : Mx) : one.mul x = x := by
  obtain ⟨a, b, c, d⟩ := x
  simp [mul, one]
theorem mul_one (x : Mx) : x.mul one = x := by
  obtain ⟨a, b, c, d⟩ := x
  simp [mul, one]
theorem det_mul (x y : Mx) : (x.mul y).det = x.det * y.det := by
  simp only [mul, det]
  grind
theorem det_neg (x : Mx) : x.neg.det = x.det := by
  simp only [neg, det]
  grind
theorem det_inv (x : Mx) : x.inv.det = x.det := by
  simp only [inv, det]
  grind
theorem det_nrm (x : Mx) : x.nrm.det = x.det := by
  unfold nrm
  split
  · exact det_neg x
  · rfl
theorem neg_mul (x y : Mx) : x.neg.mul y = (x.mul y).neg := by
  simp only [mul, neg, mk.injEq]
  refine ⟨?_, ?_, ?_, ?_⟩ <;> grind
theorem mul_neg (x y : Mx) : x.mul y.neg = (x.mul y).neg := by
  simp only [mul, neg, mk.injEq]
  refine ⟨?_, ?_, ?_, ?_⟩ <;> grind
theorem neg_neg (x : Mx) : x.neg.neg = x := by
  obtain ⟨a, b, c, d⟩ := x
  simp [neg]
/-- normal: c above 0, or 0 and d above 0 -/
def isN (m : Mx) : Prop := 0 < m.c ∨ (m.c = 0 ∧ 0 < m.d)
theorem nrm_isN {m : Mx} (h : m.det = 1) : m.nrm.isN := by
  unfold nrm isNeg isN
  split
  · rename_i c
    simp only [Bool.or_eq_true, Bool.and_eq_true, decide_eq_true_eq] at c
    simp only [neg]
    omega
  · rename_i c
    simp only [Bool.or_eq_true, Bool.and_eq_true, decide_eq_true_eq, not_or, not_and] at c
    have hd : m.c = 0 → m.d ≠ 0 := fun h1 h2 => by
      rw [det, h1, h2] at h
      simp at h
    omega
theorem nrm_of_isN {m : Mx} (h : m.isN) : m.nrm = m := by
  unfold nrm isNeg
  unfold isN at h
  rw [if_neg]
  simp only [Bool.or_eq_true, Bool.and_eq_true, decide_eq_true_eq]
  omega
theorem nrm_neg_of {m : Mx} (h : m.isN) : m.neg.nrm = m := by
  have : m.neg.isNeg = true := by
    unfold isNeg neg
    unfold isN at h
    simp only [Bool.or_eq_true, Bool.and_eq_true, decide_eq_true_eq]
    omega
  unfold nrm
  rw [if_pos this, neg_neg]
/-- a product, from the left -/
def prod (l : List Mx) : Mx := l.foldl mul one
theorem foldl_mul (l : List Mx) : ∀ x : Mx, l.foldl mul x = x.mul (prod l) := by
  induction l with
  | nil => intro x; exact (mul_one x).symm
  | cons y l ih =>
    intro x
    show l.foldl mul (x.mul y) = x.mul (l.foldl mul (one.mul y))
    rw [ih, ih, one_mul, mul_assoc]
theorem prod_cons (x : Mx) (l : List Mx) : prod (x :: l) = x.mul (prod l) := by
  show l.foldl mul (one.mul x) = _
  rw [foldl_mul, one_mul]
theorem prod_append (k l : List Mx) : prod (k ++ l) = (prod k).mul (prod l) := by
  show (k ++ l).foldl mul one = _
  rw [List.foldl_append, foldl_mul]
  rfl
theorem det_prod {l : List Mx} (h : ∀ x ∈ l, x.det = 1) : (prod l).det = 1 := by
  induction l with
  | nil => rfl
  | cons x l ih => rw [prod_cons, det_mul, h x List.mem_cons_self, ih fun y hy => h y (List.mem_cons_of_mem _ hy)]; rfl
theorem pd0 (m : Mx) : pix m.pd (.int 0) = some (.int m.a) := rfl
theorem pd1 (m : Mx) : pix m.pd (.int 1) = some (.int m.b) := rfl
theorem pd2 (m : Mx) : pix m.pd (.int 2) = some (.int m.c) := rfl
theorem pd3 (m : Mx) : pix m.pd (.int 3) = some (.int m.d) := rfl
theorem shaped (m : Mx) : SeqAt.shaped m.pd = true := by
  have := shaped_tp [m.a, m.b, m.c, m.d]
  exact this
theorem eqv (x y : Mx) : PyData.eqv x.pd y.pd = decide (x = y) := by
  have := eqv_tp [x.a, x.b, x.c, x.d] [y.a, y.b, y.c, y.d]
  have e : (x.pd : PD) = tp [x.a, x.b, x.c, x.d] := rfl
  have e2 : (y.pd : PD) = tp [y.a, y.b, y.c, y.d] := rfl
  rw [e, e2, this]
  obtain ⟨a, b, c, d⟩ := x
  obtain ⟨a', b', c', d'⟩ := y
  simp
end Mx
/-! ### letters and words -/
inductive Lt | s | r | R
  deriving DecidableEq
namespace Lt
def code : Lt → Nat
  | s => 115
  | r => 114
  | R => 82
def str (t : Lt) : Str := ⟨#[t.code]⟩
def mx : Lt → Mx
  | s => ⟨0, -1, 1, 0⟩
  | r => ⟨0, -1, 1, 1⟩
  | R => ⟨-1, -1, 1, 0⟩
theorem sm (t : Lt) : t.mx.Sm 1 := by cases t <;> exact ⟨by unfold Fh.Sm; decide, by unfold Fh.Sm; decide, by unfold Fh.Sm; decide, by unfold Fh.Sm; decide⟩
theorem det (t : Lt) : t.mx.det = 1 := by cases t <;> rfl
end Lt
def wd (l : List Lt) : Str := ⟨(l.map Lt.code).toArray⟩
theorem wd_nil : wd [] = "" := rfl
theorem wd_snoc (l : List Lt) (t : Lt) : wd (l ++ [t]) = wd l ++ t.str := by
  show (⟨_⟩ : Str) = ⟨_⟩
  simp [wd, Lt.str]
theorem wd_app (l m : List Lt) : wd (l ++ m) = wd l ++ wd m := by
  show (⟨_⟩ : Str) = ⟨_⟩
  simp [wd]
theorem wd_len (l : List Lt) : (wd l).length = l.length := by
  show (l.map Lt.code).toArray.size = _
  simp
theorem wd_items (l : List Lt) : (wd l).cps.toList.map (fun c => PyData.str ⟨#[c]⟩) = l.map fun t => .str t.str := by
  show ((l.map Lt.code).toArray.toList.map fun c => PyData.str ⟨#[c]⟩) = _
  simp [Lt.str]
theorem itemsOf_wd {l : List Lt} (h : l.length ≤ sizeLine) : itemsOf (.str (wd l)) = some (l.map fun t => .str t.str) := by
  show (if okLen (wd l).length = true then _ else none) = _
  rw [if_pos (by rw [wd_len]; exact decide_eq_true h), wd_items]
theorem wd_last (l : List Lt) (t : Lt) (h : l.length < sizeLine) : pix (.str (wd (l ++ [t]))) (.int (-1)) = some (.str t.str) := by
  show (if okLen (wd (l ++ [t])).length = true then _ else none) = _
  rw [if_pos (by rw [wd_len, List.length_append]; exact decide_eq_true h)]
  show (atI ((l ++ [t]).map Lt.code).toArray.toList (-1)).map _ = _
  have e : ((l ++ [t]).map Lt.code).toArray.toList = l.map Lt.code ++ [t.code] := by simp
  rw [e]
  have : atI (l.map Lt.code ++ [t.code]) (-1) = some t.code := by
    unfold atI ixN
    rw [if_neg (by omega), if_pos (by rw [List.length_append, List.length_map, List.length_singleton]; omega)]
    show (List.map Lt.code l ++ [t.code])[(-1 + ((List.map Lt.code l ++ [t.code]).length : Int)).toNat]? = _
    rw [show (-1 + ((List.map Lt.code l ++ [t.code]).length : Int)).toNat = (List.map Lt.code l).length by rw [List.length_append, List.length_singleton]; omega]
    simp
  rw [this]
  rfl
theorem strOk_wd (l : List Lt) : PyData.strOk (wd l) = true := by
  unfold PyData.strOk wd
  rw [← Array.all_toList]
  refine List.all_eq_true.mpr fun c hc => ?_
  rw [List.toList_toArray] at hc
  obtain ⟨t, _, rfl⟩ := List.mem_map.mp hc
  cases t <;> rfl
theorem shaped_str {z : Str} (h : PyData.strOk z = true) : SeqAt.shaped (.str z) = true := by
  rw [SeqAt.shaped, PyData.canLay0, h]
  rfl
theorem shaped_wd (l : List Lt) : SeqAt.shaped (.str (wd l)) = true := shaped_str (strOk_wd l)
theorem eqv_str (a b : Str) : PyData.eqv (.str a) (.str b) = decide (a = b) := by
  rw [PyData.eqv, Bool.eq_iff_iff]
  simp
theorem wd_inj {k l : List Lt} (h : wd k = wd l) : k = l := by
  have e : k.map Lt.code = l.map Lt.code := by
    have := congrArg (fun s : Str => s.cps.toList) h
    simpa [wd] using this
  have inj : ∀ a b : Lt, a.code = b.code → a = b := fun a b h => by cases a <;> cases b <;> first | rfl | cases h
  clear h
  induction k generalizing l with
  | nil => cases l with
    | nil => rfl
    | cons _ _ => cases e
  | cons a k ih => cases l with
    | nil => cases e
    | cons b l =>
      rw [List.map_cons, List.map_cons] at e
      injection e with e1 e2
      rw [inj a b e1, ih e2]
theorem cop_eq_wd (k l : List Lt) : cop .eq (.str (wd k)) (.str (wd l)) = some (decide (k = l)) := by
  rw [cop_eq (shaped_wd k) (shaped_wd l), eqv_str]
  by_cases h : k = l
  · subst h; simp
  · rw [decide_eq_false h, decide_eq_false fun e => h (wd_inj e)]
theorem str_s : ("s" : Str) = wd [.s] := by decide +kernel
theorem str_r : ("r" : Str) = wd [.r] := by decide +kernel
theorem str_R : ("R" : Str) = wd [.R] := by decide +kernel
theorem str_e : ("" : Str) = wd [] := by decide +kernel
theorem lt_wd (t : Lt) : t.str = wd [t] := rfl
end Fh
namespace Fh
open PySem L2 PyProof.Rows
/-! ### greatest common divisors, fractions -/
def gI (a b : Int) : Int := ((Nat.gcd a.natAbs b.natAbs : Nat) : Int)
theorem gI_eq (a b : Int) : gI a b = (Int.gcd a b : Int) := rfl
theorem gI_step {a b : Int} (h1 : 0 < b) : gI b (a.fmod b) = gI a b := by
  rw [gI_eq, gI_eq]
  have e : a.fmod b = a - b * a.fdiv b := by have := Int.mul_fdiv_add_fmod a b; omega
  rw [e, Int.gcd_sub_mul_left_right, Int.gcd_comm]
theorem gI_comm (a b : Int) : gI a b = gI b a := by unfold gI; rw [Nat.gcd_comm]
theorem gI_zero (a : Int) : gI a 0 = a.natAbs := by unfold gI; simp
theorem gI_nonneg (a b : Int) : 0 ≤ gI a b := by unfold gI; omega
theorem gI_neg (a b : Int) : gI (-a) b = gI a b := by rw [gI_eq, gI_eq, Int.neg_gcd]
theorem gI_neg2 (a b : Int) : gI a (-b) = gI a b := by rw [gI_eq, gI_eq, Int.gcd_neg]
theorem gI_one {a b : Int} : gI a b = 1 ↔ Int.gcd a b = 1 := by rw [gI_eq]; omega
theorem gI_pos {a b : Int} (h : b ≠ 0) : 0 < gI a b := by
  rw [gI_eq]
  have := Int.gcd_pos_of_ne_zero_right a h
  omega
theorem gI_dvd1 (a b : Int) : gI a b ∣ a := by rw [gI_eq]; exact Int.gcd_dvd_left a b
theorem gI_dvd2 (a b : Int) : gI a b ∣ b := by rw [gI_eq]; exact Int.gcd_dvd_right a b
theorem gI_le {a b : Int} (h : b ≠ 0) : gI a b ≤ b.natAbs := by
  rw [gI_eq]
  have := Int.gcd_le_natAbs_right a h
  omega
theorem sqn (a : Int) : 0 ≤ a * a := by
  rcases Int.le_total 0 a with h | h
  · exact Int.mul_nonneg h h
  · have := Int.mul_nonneg (show 0 ≤ -a by omega) (show 0 ≤ -a by omega)
    rw [Int.neg_mul_neg] at this
    exact this
theorem dvd_cop {k n m : Int} (h : gI k n = 1) (hd : k ∣ n * m) : k ∣ m := by
  have := Int.dvd_gcd_mul_iff_dvd_mul.mpr hd
  rw [gI_one.mp h] at this
  simpa using this
/-- p / q in lowest terms -/
structure IsFr (p q P Q : Int) : Prop where
  pos : 0 < Q
  cop : gI P Q = 1
  eq : p * Q = P * q
theorem IsFr.uniq {p q P Q P' Q' : Int} (hq : q ≠ 0) (h : IsFr p q P Q) (h' : IsFr p q P' Q') : P = P' ∧ Q = Q' := by
  have e : P * Q' = P' * Q := by
    have h1 : q * (P * Q') = q * (P' * Q) := by
      have a1 := h.eq
      have a2 := h'.eq
      have : q * (P * Q') = (P * q) * Q' := by grind
      rw [this, ← a1]
      have : q * (P' * Q) = (P' * q) * Q := by grind
      rw [this, ← a2]
      grind
    exact Int.eq_of_mul_eq_mul_left hq h1
  have d1 : Q ∣ Q' := dvd_cop (by rw [gI_comm]; exact h.cop) ⟨P', by rw [e, Int.mul_comm]⟩
  have d2 : Q' ∣ Q := dvd_cop (by rw [gI_comm]; exact h'.cop) ⟨P, by rw [← e, Int.mul_comm]⟩
  have hQ : Q = Q' := Int.le_antisymm (Int.le_of_dvd h'.pos d1) (Int.le_of_dvd h.pos d2)
  subst hQ
  exact ⟨Int.eq_of_mul_eq_mul_right (Int.ne_of_gt h.pos) e, rfl⟩
/-- the fraction p / q, (1, 0) if q is 0 -/
def Fr (p q : Int) : Int × Int := if q = 0 then (1, 0) else if 0 < q then (p.fdiv (gI p q), q.fdiv (gI p q)) else ((-p).fdiv (gI p q), (-q).fdiv (gI p q))
theorem fdiv_exact {a g : Int} (h : g ∣ a) : a.fdiv g * g = a := Int.fdiv_mul_cancel h
theorem cop_div {p q g : Int} (hg : 0 < g) (e : gI p q = g) : gI (p.fdiv g) (q.fdiv g) = 1 := by
  have h1 := fdiv_exact (e ▸ gI_dvd1 p q : g ∣ p)
  have h2 := fdiv_exact (e ▸ gI_dvd2 p q : g ∣ q)
  generalize p.fdiv g = P at *
  generalize q.fdiv g = Q at *
  subst h1 h2
  rw [gI_eq, Int.gcd_mul_right] at e
  rw [gI_eq]
  have : (Int.gcd P Q : Int) * g = 1 * g := by
    rw [Int.one_mul]
    have e2 : ((g.natAbs : Nat) : Int) = g := by omega
    rw [← e2]
    rw [← e2] at e
    simpa using e
  exact Int.eq_of_mul_eq_mul_right (Int.ne_of_gt hg) this
theorem Fr_is {p q : Int} (hq : q ≠ 0) : IsFr p q (Fr p q).1 (Fr p q).2 := by
  have hg := gI_pos (a := p) hq
  unfold Fr
  rw [if_neg hq]
  split
  · rename_i h
    have h1 := fdiv_exact (gI_dvd1 p q)
    have h2 := fdiv_exact (gI_dvd2 p q)
    refine ⟨?_, cop_div hg rfl, ?_⟩
    · show 0 < q.fdiv (gI p q)
      rw [← h2] at h
      exact Int.pos_of_mul_pos_left h hg |> fun z => z
    · show p * q.fdiv (gI p q) = p.fdiv (gI p q) * q
      generalize gI p q = g at *
      generalize p.fdiv g = P at *
      generalize q.fdiv g = Q at *
      rw [← h1, ← h2]
      grind
  · rename_i h
    have hg2 : gI (-p) (-q) = gI p q := by rw [gI_neg, gI_neg2]
    have h1 := fdiv_exact (hg2 ▸ gI_dvd1 (-p) (-q) : gI p q ∣ -p)
    have h2 := fdiv_exact (hg2 ▸ gI_dvd2 (-p) (-q) : gI p q ∣ -q)
    refine ⟨?_, cop_div hg hg2, ?_⟩
    · show 0 < (-q).fdiv (gI p q)
      have h : 0 < -q := by omega
      rw [← h2] at h
      exact Int.pos_of_mul_pos_left h hg |> fun z => z
    · show p * (-q).fdiv (gI p q) = (-p).fdiv (gI p q) * q
      generalize gI p q = g at *
      generalize (-p).fdiv g = P at *
      generalize (-q).fdiv g = Q at *
      have : p = -(P * g) := by omega
      have : q = -(Q * g) := by omega
      grind
theorem Fr_eq {p q P Q : Int} (hq : q ≠ 0) (h : IsFr p q P Q) : Fr p q = (P, Q) := by
  obtain ⟨h1, h2⟩ := (Fr_is hq).uniq hq h
  exact Prod.ext h1 h2
theorem Fr_zero (p : Int) : Fr p 0 = (1, 0) := by unfold Fr; rw [if_pos rfl]
theorem Fr_of {P Q : Int} (hQ : 0 < Q) (h : gI P Q = 1) : Fr P Q = (P, Q) := Fr_eq (by omega) ⟨hQ, h, rfl⟩
theorem IsFr.mul {p q P Q k : Int} (h : IsFr p q P Q) : IsFr (p * k) (q * k) P Q := ⟨h.pos, h.cop, by have := h.eq; grind⟩
/-- how great a fraction is -/
theorem Fr_bd {p q : Int} (hq : q ≠ 0) : (Fr p q).1.natAbs ≤ p.natAbs ∧ (Fr p q).2.natAbs ≤ q.natAbs := by
  have h := Fr_is (p := p) hq
  have hg := gI_pos (a := p) hq
  have key : ∀ x g : Int, 0 < g → g ∣ x → (x.fdiv g).natAbs ≤ x.natAbs := fun x g hg hd => by
    have := fdiv_exact hd
    have e : x.natAbs = (x.fdiv g).natAbs * g.natAbs := by rw [← Int.natAbs_mul, this]
    rw [e]
    exact Nat.le_mul_of_pos_right _ (by omega)
  unfold Fr
  rw [if_neg hq]
  split
  · exact ⟨key _ _ hg (gI_dvd1 p q), key _ _ hg (gI_dvd2 p q)⟩
  · have a := key (-p) _ hg (Int.dvd_neg.mpr (gI_dvd1 p q))
    have b := key (-q) _ hg (Int.dvd_neg.mpr (gI_dvd2 p q))
    rw [Int.natAbs_neg] at a b
    exact ⟨a, b⟩
def frD (x : Int × Int) : PD := .tuple [.int x.1, .int x.2]
theorem frD_eq (x : Int × Int) : frD x = tp [x.1, x.2] := rfl
theorem eqv_frD (x y : Int × Int) : PyData.eqv (frD x) (frD y) = decide (x = y) := by
  rw [frD_eq, frD_eq, eqv_tp]
  obtain ⟨a, b⟩ := x
  obtain ⟨c, d⟩ := y
  simp
theorem shaped_frD (x : Int × Int) : SeqAt.shaped (frD x) = true := shaped_tp [x.1, x.2]
theorem cop_eq_frD (x y : Int × Int) : cop .eq (frD x) (frD y) = some (decide (x = y)) := by rw [cop_eq (shaped_frD x) (shaped_frD y), eqv_frD]
theorem cop_ne_frD (x y : Int × Int) : cop .ne (frD x) (frD y) = some (!decide (x = y)) := by rw [cop_ne (shaped_frD x) (shaped_frD y), eqv_frD]
theorem fr0 (x : Int × Int) : pix (frD x) (.int 0) = some (.int x.1) := rfl
theorem fr1 (x : Int × Int) : pix (frD x) (.int 1) = some (.int x.2) := rfl
end Fh
namespace Fh
open PySem L2 PyProof.Rows
/-! constants of the top, by what the part keeps of them -/
def RpK (K : PySem.W.Frag) (u : Value) (d : PD) : Prop := ∃ v, RelV v u ∧ ∀ tv F H, okKl tv.kl d = true → Rp K tv F H v d
def RpKA (K : PySem.W.Frag) (us : List Value) (ds : List PD) : Prop := ∃ vs, Vals vs us ∧ ∀ tv F H, okKlA tv.kl ds = true → RpA K tv F H vs ds
section
variable {K : PySem.W.Frag}
theorem rpk_int (i : Int) (t) : RpK K (.int i t) (.int i) := ⟨.int i, ⟨t, rfl⟩, fun _ _ _ _ => .int i⟩
theorem rpk_str (x : Str) (t) : RpK K (.str x t) (.str x) := ⟨.str x, ⟨t, rfl⟩, fun _ _ _ _ => .str x⟩
theorem rpk_bool (b : Bool) : RpK K (.bool b) (.bool b) := ⟨.bl b, rfl, fun _ _ _ _ => .bl b⟩
theorem rpk_none : RpK K .none .none := ⟨.non, rfl, fun _ _ _ _ => .non⟩
theorem rpk_nil : RpKA K [] [] := ⟨[], .nil, fun _ _ _ _ => .nil⟩
theorem rpk_cons {u : Value} {us : List Value} {d : PD} {ds : List PD} (h : RpK K u d) (hs : RpKA K us ds) : RpKA K (u :: us) (d :: ds) := by
  obtain ⟨v, h1, h2⟩ := h
  obtain ⟨vs, h3, h4⟩ := hs
  exact ⟨v :: vs, .cons h1 h3, fun tv F H hk => by
    rw [okKlA, Bool.and_eq_true] at hk
    exact .cons (h2 tv F H hk.1) (h4 tv F H hk.2)⟩
theorem rpk_tup {a : Addr} {od : Option Addr} {its : Array Value} {n : Nat} {sl : Array (Option Value)} {ds : List PD} (l : K.lookup a = some ⟨.type "tuple", od, .seq its n, sl⟩) (hs : decide (its.size ≤ 1000) = true) (r : RpKA K its.toList ds) : RpK K (.ref a) (.tuple ds) := by
  obtain ⟨vs, h1, h2⟩ := r
  refine ⟨.ref a, rfl, fun tv F H hk => ?_⟩
  rw [okKl, Bool.and_eq_true, decide_eq_true_eq] at hk
  have hr := h2 tv F H hk.2
  exact .tup ⟨.inr ⟨_, its, n, l, rfl, rfl, by have := of_decide_eq_true hs; rw [sizeLine_eq]; omega, h1⟩, fun e => absurd (by rw [← hr.length]; exact e) hk.1⟩ hr
theorem okKlA_ints (n : Nat) : ∀ l : List Int, okKlA n (l.map .int) = true
  | [] => by rw [List.map_nil, okKlA]
  | i :: l => by rw [List.map_cons, okKlA, okKlA_ints n l]; simp [okKl]
/-- a tuple of ints that is no key -/
theorem rpk_ctp {a : Addr} {od : Option Addr} {its : Array Value} {n : Nat} {sl : Array (Option Value)} {l : List Int} (lk : K.lookup a = some ⟨.type "tuple", od, .seq its n, sl⟩) (hs : decide (its.size ≤ 1000) = true) (r : RpKA K its.toList (l.map .int)) : RpK K (.ref a) (conD (l.map .int)) := by
  obtain ⟨vs, h1, h2⟩ := r
  exact ⟨.ref a, rfl, fun tv F H hk => .ctp (.inr ⟨_, its, n, lk, rfl, rfl, by have := of_decide_eq_true hs; rw [sizeLine_eq]; omega, h1⟩) (h2 tv F H (okKlA_ints _ l))⟩
theorem rpk_lst {a : Addr} {its : Array Value} {n : Nat} {sl : Array (Option Value)} {ds : List PD} (l : K.lookup a = some ⟨.type "list", none, .seq its n, sl⟩) (hs : decide (its.size ≤ 1000) = true) (r : RpKA K its.toList ds) : RpK K (.ref a) (.list ds) := by
  obtain ⟨vs, h1, h2⟩ := r
  exact ⟨.ref a, rfl, fun tv F H hk => .lst (.inr (.inr (.inr ⟨_, its, n, l, rfl, rfl, rfl, by have := of_decide_eq_true hs; rw [sizeLine_eq]; omega, h1⟩))) (h2 tv F H (by rw [okKl] at hk; exact hk))⟩
theorem conOk_mk {x : Str} {u : Value} {d : PD} (h : PySem.W.nsIn K mainGlobals x = some (some u)) (r : RpK K u d) : ConOk K x d := by
  obtain ⟨v, h1, h2⟩ := r
  exact ⟨u, v, h, h1, h2⟩
theorem dctOk_mk {w : World} {x : Str} {a : Addr} {es : Array DictEntry} {n : Nat} {l : List (Str × PD)} (h : PySem.W.nsIn K mainGlobals x = some (some (.ref a))) (o : K.lookup a = some ⟨.type "dict", none, .dict es n, #[]⟩) (kl : PySem.W.KeysLit w.params es.toList)
    (q : ∀ q ∈ l, ∃ u, PySem.W.nsIn K a q.1 = some (some u) ∧ RpK K u q.2) : DctOk K w x l :=
  ⟨a, es, n, h, o, kl, fun z hz => by
    obtain ⟨u, h1, v, h2, h3⟩ := q z hz
    exact ⟨u, v, h1, h2, h3⟩⟩
theorem dq_nil {a : Addr} : ∀ q ∈ ([] : List (Str × PD)), ∃ u, PySem.W.nsIn K a q.1 = some (some u) ∧ RpK K u q.2 := fun _ h => by cases h
theorem dq_cons {a : Addr} {z : Str} {d : PD} {l : List (Str × PD)} {u : Value} (h : PySem.W.nsIn K a z = some (some u)) (r : RpK K u d) (q : ∀ q ∈ l, ∃ u, PySem.W.nsIn K a q.1 = some (some u) ∧ RpK K u q.2) : ∀ q ∈ (z, d) :: l, ∃ u, PySem.W.nsIn K a q.1 = some (some u) ∧ RpK K u q.2 := fun y hy => by
  rcases List.mem_cons.mp hy with rfl | hy
  · exact ⟨u, h, r⟩
  · exact q y hy
end
end Fh
namespace Fh
open PySem L2 PyProof.Rows
section
variable {T : Type}
/-- a list made of some of the items -/
theorem ev_lcf {α : Type} {g : Glob T} {i : Nat} {it : Ir} {c elt : E} {ρ : Ev} {τ τ' : T} (l : List α) (e : α → PD) (p : α → Bool) (f : α → PD) (hit : items g it ρ τ = some (l.map e, τ')) (hl : l.length ≤ sizeLine) (hi : i < ρ.length)
    (hs : ∀ a ∈ l, ∀ ρ1, ρ1 = ρ.set i (some (.sh (e a))) → evT g c ρ1 τ' = some (p a, τ') ∧ (p a = true → ev g elt ρ1 τ' = some (f a, τ'))) :
    ev g (.lc (.name i) it c elt) ρ τ = some (.list ((l.filter p).map f), τ') := by
  have h := lcLoop_map (τ := τ') (step := fun d τ => (bindT (.name i) d (wipeE ρ (Tg.slots (.name i)))).bind fun ρ1 => (ev g c ρ1 τ).bind fun q => (truth q.1).bind fun b => if b then (ev g elt ρ1 q.2).map fun r => (some r.1, r.2) else some (none, q.2)) e (fun a => if p a then some (f a) else none) l (by
    intro a ha
    obtain ⟨h1, h2⟩ := hs a ha _ rfl
    have hb : bindT (.name i) (e a) (wipeE ρ (Tg.slots (.name i))) = some (ρ.set i (some (.sh (e a)))) := by
      show (if i < (ρ.set i none).length then some (put (ρ.set i none) i (.sh (e a))) else none) = _
      rw [if_pos (by rw [List.length_set]; exact hi)]
      unfold put
      rw [List.set_set]
    unfold evT at h1
    rw [hb, Option.bind_some]
    cases hq : ev g c (ρ.set i (some (.sh (e a)))) τ' with
    | none => rw [hq] at h1; cases h1
    | some q =>
      rw [hq, Option.bind_some] at h1
      rw [Option.bind_some]
      cases ht : truth q.1 with
      | none => rw [ht] at h1; cases h1
      | some b =>
        rw [ht, Option.map_some] at h1
        have h1 := Option.some.inj h1
        have e1 : b = p a := congrArg Prod.fst h1
        have e2 : q.2 = τ' := congrArg Prod.snd h1
        rw [Option.bind_some, e1, e2]
        by_cases hp : p a = true
        · rw [hp, if_pos rfl, h2 hp, if_pos rfl]
          rfl
        · rw [Bool.not_eq_true] at hp
          rw [hp, if_neg (by decide), if_neg (by decide)])
  rw [ev, hit, Option.bind_some]
  dsimp only
  rw [if_pos (by rw [List.length_map]; exact decide_eq_true hl), h, Option.map_some]
  congr 3
  clear h hs hit hl
  induction l with
  | nil => rfl
  | cons a l ih =>
    rw [List.filterMap_cons, List.filter_cons]
    cases p a
    · exact ih
    · exact congrArg (f a :: ·) ih
/-- a for loop that puts more at the end of a list -/
theorem loop_app {α σ : Type} {bd : PD → Ev → Option Ev} {body : Ev → T → Option (Out T)} (F : List PD → σ → Ev) (e : α → PD) (f : α → List PD) (B LIM : Nat) {τ : T} : ∀ (l : List α) (told : List PD) (s : σ), told.length + B * l.length ≤ LIM → (∀ a ∈ l, (f a).length ≤ B) →
    (∀ a ∈ l, ∀ told s, told.length + B ≤ LIM → ∃ s1 s2, bd (e a) (F told s) = some (F told s1) ∧ body (F told s1) τ = some (.nx (F (told ++ f a) s2) τ)) →
    ∃ s', loopF bd body (l.map e) (F told s) τ = some (.nx (F (told ++ l.flatMap f) s') τ)
  | [], told, s, _, _, _ => ⟨s, by rw [List.flatMap_nil, List.append_nil]; rfl⟩
  | a :: l, told, s, h, hf, hs => by
    rw [List.length_cons, Nat.mul_add, Nat.mul_one] at h
    obtain ⟨s1, s2, e1, e2⟩ := hs a List.mem_cons_self told s (by omega)
    have h1 := hf a List.mem_cons_self
    obtain ⟨s', e3⟩ := loop_app F e f B LIM l (told ++ f a) s2 (by rw [List.length_append]; omega) (fun b hb => hf b (List.mem_cons_of_mem _ hb)) fun b hb => hs b (List.mem_cons_of_mem _ hb)
    refine ⟨s', ?_⟩
    rw [List.map_cons, loopF, e1, Option.bind_some, e2, Option.bind_some]
    dsimp only
    rw [e3, List.flatMap_cons, List.append_assoc]
/-- a while loop that goes up by one step till a test -/
theorem searchW {t : Ev → T → Option (Bool × T)} {body : Ev → T → Option (Out T)} (F : Int → Ev) (p : Int → Bool) (st : Int) (τ : T) : ∀ (k : Nat) (x0 : Int) (n : Nat), k < n → (∀ j : Nat, j ≤ k → t (F (x0 + j * st)) τ = some (p (x0 + j * st), τ)) → (∀ j : Nat, j ≤ k → body (F (x0 + j * st)) τ = some (.nx (F (x0 + j * st + st)) τ)) → p (x0 + k * st) = false →
    ∃ j : Nat, j ≤ k ∧ p (x0 + j * st) = false ∧ loopW t body n (F x0) τ = some (.nx (F (x0 + j * st)) τ)
  | k, x0, 0, h, _, _, _ => absurd h (Nat.not_lt_zero _)
  | k, x0, n + 1, h, ht, hb, hg => by
    have t0 := ht 0 (Nat.zero_le _)
    have b0 := hb 0 (Nat.zero_le _)
    rw [show x0 + ((0 : Nat) : Int) * st = x0 by rw [show (((0 : Nat) : Int)) * st = 0 from Int.zero_mul _, Int.add_zero]] at t0 b0
    cases h1 : p x0 with
    | false =>
      refine ⟨0, Nat.zero_le _, ?_, ?_⟩
      · rw [show x0 + ((0 : Nat) : Int) * st = x0 by rw [show (((0 : Nat) : Int)) * st = 0 from Int.zero_mul _, Int.add_zero]]; exact h1
      · rw [loopW, t0, h1, show x0 + ((0 : Nat) : Int) * st = x0 by rw [show (((0 : Nat) : Int)) * st = 0 from Int.zero_mul _, Int.add_zero]]
        rfl
    | true =>
      match k, h, ht, hb, hg with
      | 0, _, _, _, hg => rw [show x0 + ((0 : Nat) : Int) * st = x0 by rw [show (((0 : Nat) : Int)) * st = 0 from Int.zero_mul _, Int.add_zero], h1] at hg; cases hg
      | k + 1, h, ht, hb, hg =>
        have sh : ∀ j : Nat, x0 + st + (j : Int) * st = x0 + ((j + 1 : Nat) : Int) * st := fun j => by
          rw [Int.natCast_add, Int.add_mul, show (((1 : Nat) : Int)) * st = st from Int.one_mul _]; omega
        obtain ⟨j, h2, h3, h4⟩ := searchW F p st τ k (x0 + st) n (by omega) (fun j hj => by rw [sh j]; exact ht (j + 1) (by omega)) (fun j hj => by rw [sh j]; exact hb (j + 1) (by omega)) (by rw [sh k]; exact hg)
        refine ⟨j + 1, by omega, by rw [← sh j]; exact h3, ?_⟩
        rw [loopW, t0, h1, Option.bind_some]
        dsimp only
        rw [if_pos rfl, b0, Option.bind_some]
        dsimp only
        rw [h4, sh j]
section
variable {g : Glob T} {ρ : Ev} {τ τ1 τ2 : T}
theorem evT_b {e : E} {b : Bool} (h : ev g e ρ τ = some (.bool b, τ1)) : evT g e ρ τ = some (b, τ1) := by
  unfold evT; rw [h]; rfl
theorem evT_and1 {a : E} : evT g (.ands (.cons a .nil)) ρ τ = evT g a ρ τ := by
  unfold evT
  rw [ev, evAnd]
  cases ev g a ρ τ <;> rfl
theorem evT_or1 {a : E} : evT g (.ors (.cons a .nil)) ρ τ = evT g a ρ τ := by
  unfold evT
  rw [ev, evOr]
  cases ev g a ρ τ <;> rfl
theorem evT_and {a b : E} {es : Es} {c : Bool} (h : evT g a ρ τ = some (c, τ1)) : evT g (.ands (.cons a (.cons b es))) ρ τ = if c then evT g (.ands (.cons b es)) ρ τ1 else some (false, τ1) := by
  unfold evT at h ⊢
  cases ha : ev g a ρ τ with
  | none => rw [ha] at h; cases h
  | some p =>
    rw [ha, Option.bind_some] at h
    cases ht : truth p.1 with
    | none => rw [ht] at h; cases h
    | some b' =>
      rw [ht, Option.map_some] at h
      have h := Option.some.inj h
      have e1 : b' = c := congrArg Prod.fst h
      have e2 : p.2 = τ1 := congrArg Prod.snd h
      subst e1
      subst e2
      rw [ev, evAnd, ha, Option.bind_some]
      simp only [ht, Option.bind_some]
      cases b' with
      | true =>
        rw [if_pos rfl, if_pos rfl, ev]
      | false =>
        rw [if_neg (by decide), if_neg (by decide), Option.bind_some, ht]
        rfl
theorem evT_or {a b : E} {es : Es} {c : Bool} (h : evT g a ρ τ = some (c, τ1)) : evT g (.ors (.cons a (.cons b es))) ρ τ = if c then some (true, τ1) else evT g (.ors (.cons b es)) ρ τ1 := by
  unfold evT at h ⊢
  cases ha : ev g a ρ τ with
  | none => rw [ha] at h; cases h
  | some p =>
    rw [ha, Option.bind_some] at h
    cases ht : truth p.1 with
    | none => rw [ht] at h; cases h
    | some b' =>
      rw [ht, Option.map_some] at h
      have h := Option.some.inj h
      have e1 : b' = c := congrArg Prod.fst h
      have e2 : p.2 = τ1 := congrArg Prod.snd h
      subst e1
      subst e2
      rw [ev, evOr, ha, Option.bind_some]
      simp only [ht, Option.bind_some]
      cases b' with
      | true =>
        rw [if_pos rfl, if_pos rfl, Option.bind_some, ht]
        rfl
      | false =>
        rw [if_neg (by decide), if_neg (by decide), ev]
theorem evT_nt {a : E} {c : Bool} (h : evT g a ρ τ = some (c, τ1)) : evT g (.nt a) ρ τ = some (!c, τ1) := by
  unfold evT at h ⊢
  cases ha : ev g a ρ τ with
  | none => rw [ha] at h; cases h
  | some p =>
    rw [ha, Option.bind_some] at h
    cases ht : truth p.1 with
    | none => rw [ht] at h; cases h
    | some b' =>
      rw [ht, Option.map_some] at h
      have h := Option.some.inj h
      have e1 : b' = c := congrArg Prod.fst h
      have e2 : p.2 = τ1 := congrArg Prod.snd h
      subst e1
      subst e2
      rw [ev, ha, Option.bind_some]
      simp only [ht, Option.map_some, Option.bind_some]
      rfl
theorem ev_bi1 {b : Bi} {a : E} {d r : PD} (h : ev g a ρ τ = some (d, τ1)) (hb : biD b [d] = some r) : ev g (.bi b (.cons a .nil)) ρ τ = some (r, τ1) := by
  rw [ev, evs, h, Option.bind_some, evs, Option.map_some, Option.bind_some]
  show (biD b [d]).map _ = _
  rw [hb]
  rfl
theorem ev_bi2 {b : Bi} {a1 a2 : E} {d e r : PD} (h : ev g a1 ρ τ = some (d, τ1)) (h2 : ev g a2 ρ τ1 = some (e, τ2)) (hb : biD b [d, e] = some r) : ev g (.bi b (.cons a1 (.cons a2 .nil))) ρ τ = some (r, τ2) := by
  rw [ev, evs, h, Option.bind_some, evs, h2, Option.bind_some, evs]
  show (biD b [d, e]).map _ = _
  rw [hb]
  rfl
theorem ev_cal1 {f : Nat} {a : E} {d r : PD} (h : ev g a ρ τ = some (d, τ1)) (hb : g.call f [d] τ1 = some (r, τ2)) : ev g (.call f (.cons a .nil)) ρ τ = some (r, τ2) := by
  rw [ev, evs, h, Option.bind_some, evs, Option.map_some, Option.bind_some]
  exact hb
theorem ev_cal2 {f : Nat} {a1 a2 : E} {d e r : PD} {τ3 : T} (h : ev g a1 ρ τ = some (d, τ1)) (h2 : ev g a2 ρ τ1 = some (e, τ2)) (hb : g.call f [d, e] τ2 = some (r, τ3)) : ev g (.call f (.cons a1 (.cons a2 .nil))) ρ τ = some (r, τ3) := by
  rw [ev, evs, h, Option.bind_some, evs, h2, Option.bind_some, evs]
  exact hb
theorem ev_cmp {c : COp} {a1 a2 : E} {d e : PD} {b : Bool} (h : ev g a1 ρ τ = some (d, τ1)) (h2 : ev g a2 ρ τ1 = some (e, τ2)) (hb : cop c d e = some b) : ev g (.cmp c a1 a2) ρ τ = some (.bool b, τ2) := by
  rw [ev, h, Option.bind_some, h2, Option.bind_some]
  simp only [hb, Option.map_some]
theorem ev_bin {c : BOp} {a1 a2 : E} {d e r : PD} (h : ev g a1 ρ τ = some (d, τ1)) (h2 : ev g a2 ρ τ1 = some (e, τ2)) (hb : bop c d e = some r) : ev g (.bin c a1 a2) ρ τ = some (r, τ2) := by
  rw [ev, h, Option.bind_some, h2, Option.bind_some]
  simp only [hb, Option.map_some]
end
end
theorem rangeI_app : ∀ (k : Nat) (lo : Int) (j : Nat), rangeI lo (k + j) = rangeI lo k ++ rangeI (lo + k) j
  | 0, lo, j => by rw [Nat.zero_add]; simp [rangeI]
  | k + 1, lo, j => by
    rw [show k + 1 + j = k + j + 1 by omega, rangeI, rangeI, rangeI_app k (lo + 1) j, List.cons_append, show lo + 1 + (k : Int) = lo + ((k + 1 : Nat) : Int) by omega]
theorem rangeI_in {n : Nat} {lo i : Int} (h0 : lo ≤ i) (h1 : i < lo + n) : i ∈ rangeI lo n := by
  induction n generalizing lo with
  | zero => omega
  | succ n ih =>
    rw [rangeI]
    by_cases h : i = lo
    · rw [h]; exact List.mem_cons_self
    · exact List.mem_cons_of_mem _ (ih (by omega) (by omega))
theorem filter_len_le {α : Type} (p : α → Bool) (l : List α) : (l.filter p).length ≤ l.length := List.length_filter_le p l
end Fh
namespace Fh
open PySem PySem.Spec PyProof.Rows L2
/-! the end of a law in whose defs generators are made -/
/-- what is known of the defs' code objects and tables at the head's heap -/
def Tabs (q : Program) (mg : Str → Option Value) (h : Heap) : Prop := ∀ d ∈ recsOf q, ∃ a o fd c P, mg d.name = some (.ref a) ∧ h.get? a = some o ∧ o.data = .func fd ∧ fd.code = .ref c ∧ h.IsCode c P #[] ∧ h.TableAt c P #[]
theorem walk_ofG {l : PySem.W.OpenLaw} {n k : Nat} {q : Program} {loose : List Str} {XP : (Str → Option Value) → Heap → Prop} {YP : World → Heap → Prop} {d : DefRec} {K : Params → PySem.W.Frag} {CX : World → CXT} {x : Str}
    (hn : l.most = some n) (hn2 : n ≤ sizeLine) (hdf : d.params.defaults = []) (hr : Room k callerA) (hY : ∀ (w : World) (h : Heap), YP w h → (K w.params).In h)
    (F : ∀ (w : World) (mg : Str → Option Value) (fa : Addr) (h : Heap), YP w h → (K w.params).In h → h.Ns mainGlobals mg → mg d.name = some (.ref fa) → Tabs q mg h → LamX.LawAtS l w (K w.params) (CX w) k n x mg fa h)
    (hCX : ∀ (w : World) (H : Hp) (s : Shared) (e : Value) (s' : Shared), CX w [] H s (fun _ _ _ => False) e s' → False) :
    PySem.W.WalkO q loose XP YP l.row.toRowW d [] (fun f vs => PySem.call f vs) := by
  refine Att.attach_callB hn hdf fun w s₀ s₁ mg mb fa o pm cd doc a vs ns G Y ho hd hcd hmg hobj hints hlen hbits hg => ?_
  have KX := hY w _ Y
  obtain ⟨fd, cs, sp, hT, nT, C, hb, hsp, hF⟩ := F w mg fa _ Y KX G.T.g hmg G.T.tab
  exact LamX.law_callTs KX G.T.g G.T.b G.T.builtins G.T.nolimit hg hT nT C G.T.bmain hobj hints (Nat.le_trans hlen hn2) hr hF hb (fun H hH hS => hsp H a ns hlen hbits hH hS) fun H e s' => hCX w H s₁ e s'
/-- the end of a law in whose defs no generators are made, with the script's bits -/
theorem walk_ofB {l : PySem.W.OpenLaw} {n k : Nat} {q : Program} {loose : List Str} {XP : (Str → Option Value) → Heap → Prop} {YP : World → Heap → Prop} {d : DefRec} {K : Params → PySem.W.Frag} {CX : World → CXT} {sp : World → Sp} {x : Str}
    (hn : l.most = some n) (hn2 : n ≤ sizeLine) (hdf : d.params.defaults = []) (hr : Room k callerA)
    (hY : ∀ (w : World) (h : Heap), YP w h → (K w.params).In h)
    (F : ∀ (w : World) (mg : Str → Option Value) (fa : Addr) (h : Heap), (K w.params).In h → h.Ns mainGlobals mg → mg d.name = some (.ref fa) →
      ∃ fd : FuncData, (∀ (s : Shared) (u : Value), BindsTo s fd ⟨[u], []⟩ [(x, u)]) ∧
        ∀ base : Heap, (K w.params).In base → base.Ns mainGlobals mg → FnOk l.prog w (K w.params) mg base (CX w) k fa fd [x] (sp w))
    (hsp : ∀ (w : World) (H : Hp) (a : Addr) (ns : List Int), ns.length ≤ n → Bits ns → SqL (K w.params) H a (ns.map V.int) → sp w [.ref a] H (fun v _ => v = .bl true) fun _ _ _ => False)
    (hCX : ∀ (w : World) (H : Hp) (s : Shared) (e : Value) (s' : Shared), CX w [] H s (fun _ _ _ => False) e s' → False) :
    PySem.W.WalkO q loose XP YP l.row.toRowW d [] (fun f vs => PySem.call f vs) := by
  refine Att.attach_callB hn hdf fun w s₀ s₁ mg mb fa o pm cd doc a vs ns G Y ho hd hcd hmg hobj hints hlen hbits hg => ?_
  have KX := hY w _ Y
  obtain ⟨fd, hb, hF⟩ := F w mg fa _ KX G.T.g hmg
  exact law_call KX G.T.g G.T.b G.T.builtins G.T.nolimit hg hobj hints (Nat.le_trans hlen hn2) hr hF hb (fun H _ hS => hsp w H a ns hlen hbits hS) fun H e s' => hCX w H s₁ e s'
/-- one def's code object and table -/
theorem tab_mk {q : Program} {K : PySem.W.Frag} {mg : Str → Option Value} {h : Heap} {x : Str} {f c P : Addr} {oc e : Value} {od dd : Option Addr} {fd : FuncData} {sl sl2 : Array (Option Value)} {vs : Array Value}
    (X : K.In h) (G : h.Ns mainGlobals mg) (Tb : Tabs q mg h) (hr : ((recsOf q).any fun e => e.name == x) = true) (a : PySem.W.nsIn K mainGlobals x = some (some (.ref f))) (l : K.lookup f = some ⟨oc, od, .func fd, sl⟩)
    (hc : fd.code = .ref c) (lc : K.lookup c = some ⟨e, dd, .fields vs, sl2⟩) (hv : vs[11]? = some (.ref P)) :
    h.get? P = some { cls := .none, data := .fields #[] } ∧ PySem.W.CodeHd h c P := by
  obtain ⟨dL, hm, hn1⟩ := List.any_eq_true.mp hr
  have hn2 : dL.name = x := beq_iff_eq.mp hn1
  obtain ⟨a', o', fd', c', P', h1, h2, h3, h4, h5, h6⟩ := Tb dL hm
  rw [hn2, PySem.W.mg_of X G a] at h1
  cases h1
  rw [X _ _ l] at h2
  cases h2
  cases h3
  rw [hc] at h4
  cases h4
  have hC := PySem.W.CodeHd.of h5 h6
  obtain ⟨⟨oc', vc, e1, _, e3, e4⟩, hP⟩ := h6
  rw [X _ _ lc] at e1
  cases e1
  cases e3
  rw [hv] at e4
  cases e4
  exact ⟨hP, hC⟩
/-- a def in which a generator is made: what is known of its code object c and table P -/
structure GxDef (K : PySem.W.Frag) (mg : Str → Option Value) (h : Heap) (x : Str) (st : Stmt) (ps : List Str) (c P : Addr) : Prop where
  tab : h.get? P = some { cls := .none, data := .fields #[] }
  code : PySem.W.CodeHd h c P
  out : K.lookup P = none
  fn : ∀ f fd, DefAt K mg x st f fd ps → fd.code = .ref c
theorem gx_mk {q : Program} {K : PySem.W.Frag} {mg : Str → Option Value} {h : Heap} {x : Str} {st : Stmt} {ps : List Str} {f c P : Addr} {oc e : Value} {od dd : Option Addr} {fd : FuncData} {sl sl2 : Array (Option Value)} {vs : Array Value}
    (X : K.In h) (G : h.Ns mainGlobals mg) (Tb : Tabs q mg h) (hr : ((recsOf q).any fun e => e.name == x) = true) (a : PySem.W.nsIn K mainGlobals x = some (some (.ref f))) (l : K.lookup f = some ⟨oc, od, .func fd, sl⟩)
    (hc : fd.code = .ref c) (lc : K.lookup c = some ⟨e, dd, .fields vs, sl2⟩) (hv : vs[11]? = some (.ref P)) (hn : K.lookup P = none) : GxDef K mg h x st ps c P := by
  obtain ⟨h1, h2⟩ := tab_mk X G Tb hr a l hc lc hv
  refine ⟨h1, h2, hn, fun f' fd' A => ?_⟩
  have e1 := A.m
  rw [PySem.W.mg_of X G a] at e1
  cases e1
  obtain ⟨oc', od', kV, doc, pm, an, cdv, ct, osl, e2, lk, _⟩ := A.F.ex
  rw [l] at lk
  cases lk
  exact hc
theorem tabB_of {base : Heap} {mg : Str → Option Value} {c P : Addr} (h : LamX.TabB base mg c P) : GxR.TabB base mg c P := ⟨h.code, h.bm, h.gP⟩
theorem tabs_sp {T : List (Addr × Addr)} {K : PySem.W.Frag} {H : Hp} {a : Addr} {ns : List Int} (hl : ns.length ≤ 63) (hb : Bits ns) (hH : ∀ p ∈ T, H p.2 = some (.tbl #[])) (hS : SqL K H a (ns.map V.int)) : spLaw (T.map (·.2)) K [.ref a] H (fun v _ => v = .bl true) fun _ _ _ => False :=
  ⟨a, ns, rfl, hS, ⟨hl, hb⟩, fun c hc => by
    obtain ⟨p, hp, rfl⟩ := List.mem_map.mp hc
    exact ⟨#[], hH p hp, trivial⟩, fun _ => rfl⟩
end Fh
/-! a law whose own body asks repr: the call from outside, where no repr is under way -/
namespace Fh
open PySem PySem.Spec PyProof.Rows L2
section
variable {P : Program} {w : World} {K : PySem.W.Frag} {mg mb : Str → Option Value} {cs : List (Addr × Addr)} {s : Shared} {a : Addr} {us : List Value} {ns : List Int}
/-- what is tracked when the law is called: the tables, and the script unless the part keeps it -/
def H0 (K : PySem.W.Frag) (cs : List (Addr × Addr)) (a : Addr) (o : Obj) (ns : List Int) : Hp := fun b =>
  if b = a then (match K.lookup a with | none => some (.frz o (.lst (ns.map V.int))) | some _ => none) else if b ∈ cs.map Prod.snd then some (.tbl #[]) else none
theorem H0_some {K : PySem.W.Frag} {cs : List (Addr × Addr)} {a b : Addr} {o : Obj} {ns : List Int} {u : HO} (h : H0 K cs a o ns b = some u) :
    (b = a ∧ K.lookup a = none ∧ u = .frz o (.lst (ns.map V.int))) ∨ (b ≠ a ∧ (∃ p ∈ cs, p.2 = b) ∧ u = .tbl #[]) := by
  unfold H0 at h
  split at h
  · rename_i hb
    split at h
    · rename_i hk
      exact .inl ⟨hb, hk, (Option.some.inj h).symm⟩
    · cases h
  · rename_i hb
    split at h
    · rename_i hm
      obtain ⟨p, h1, h2⟩ := List.mem_map.mp hm
      exact .inr ⟨hb, ⟨p, h1, h2⟩, (Option.some.inj h).symm⟩
    · cases h
/-- an object that is neither a list nor empty fields is not tracked -/
theorem H0_none {b : Addr} {o ob : Obj} (hl : s.heap.get? a = some ob) (hd : ob.data = .seq us.toArray) (hT : ∀ p ∈ cs, s.heap.get? p.2 = some { cls := .none, data := .fields #[] }) (e : s.heap.get? b = some o) (n1 : ∀ vs n, o.data ≠ .seq vs n) (n2 : o.data ≠ .fields #[]) : H0 K cs a ob ns b = none := by
  cases q : H0 K cs a ob ns b with
  | none => rfl
  | some u =>
    rcases H0_some q with ⟨rfl, _, _⟩ | ⟨_, ⟨p, h1, rfl⟩, _⟩
    · rw [hl] at e
      cases e
      exact absurd hd (n1 _ _)
    · rw [hT p h1] at e
      cases e
      exact absurd rfl n2
theorem law_endG {CX : CXT} {k : Nat} {fa : Addr} {fd : FuncData} {x : Str} {sp : Sp}
    (kin : K.In s.heap) (gns : s.heap.Ns mainGlobals mg) (bns : s.heap.Ns builtinsNs mb) (boot : ∀ x : Str, x ≠ "__name__" → mb x = bootBuiltins x) (nol : s.heap.NoLimit) (gens : s.gens = #[])
    (hT : ∀ p ∈ cs, s.heap.get? p.2 = some { cls := .none, data := .fields #[] }) (nT : ∀ p ∈ cs, K.lookup p.2 = none) (hC : ∀ p ∈ cs, PySem.W.CodeHd s.heap p.1 p.2)
    (bm : ∃ (m : Addr) (o : Obj), mg "__builtins__" = some (.ref m) ∧ m ≠ builtinsNs ∧ s.heap.get? m = some o ∧ o.cls = .type "module" ∧ o.dict = some builtinsNs ∧ o.data = .plain)
    (hl : s.heap.get? a = some { cls := .type "list", data := .seq us.toArray }) (hi : IntsAre us ns) (hz : ns.length ≤ sizeLine) (hr : Room k callerA)
    (F : ∀ base : Heap, K.In base → base.Ns mainGlobals mg → (∀ p ∈ cs, GxR.TabB base mg p.1 p.2) → FnOkG (fun A => A.guards = some []) P w K mg base CX k fa fd [x] sp) (hbd : ∀ (s : Shared) (u : Value), BindsTo s fd ⟨[u], []⟩ [(x, u)])
    (hsp : ∀ H : Hp, (∀ p ∈ cs, H p.2 = some (.tbl #[])) → SqL K H a (ns.map V.int) → sp [.ref a] H (fun v _ => v = .bl true) fun _ _ _ => False)
    (hX : ∀ H e s', CX [] H s (fun _ _ _ => False) e s' → False) :
    codeAny (model P w) callerA (.call (.ref fa) ⟨[.ref a], []⟩) (fun r s' => r = .ok (.ret (.bool true)) ∧ OldK s.heap s'.heap ∧ s'.os = s.os ∧ AllBare s'.gens) s := by
  have vals := vals_ints hi
  have hne : ∀ p ∈ cs, p.2 ≠ a := fun p hp z => by
    have e := hT p hp
    rw [z, hl] at e
    cases e
  obtain ⟨H, hH⟩ : ∃ H, H = H0 K cs a { cls := .type "list", data := .seq us.toArray } ns := ⟨_, rfl⟩
  have tbl : ∀ p ∈ cs, H p.2 = some (.tbl #[]) := fun p hp => by
    rw [hH]
    unfold H0
    rw [if_neg (hne p hp), if_pos (List.mem_map.mpr ⟨p, hp, rfl⟩)]
  have som : ∀ {b : Addr} {u : HO}, H b = some u → (b = a ∧ K.lookup a = none ∧ u = .frz { cls := .type "list", data := .seq us.toArray } (.lst (ns.map V.int))) ∨ (b ≠ a ∧ (∃ p ∈ cs, p.2 = b) ∧ u = .tbl #[]) := fun {b u} h => H0_some (by rw [← hH]; exact h)
  have non : ∀ {b : Addr} {o : Obj}, s.heap.get? b = some o → (∀ vs n, o.data ≠ .seq vs n) → o.data ≠ .fields #[] → H b = none := fun {b o} e n1 n2 => by
    rw [hH]
    exact H0_none hl rfl hT e n1 n2
  have script : SqL K H a (ns.map V.int) := by
    cases hk : K.lookup a with
    | none =>
      refine .inl (.inr ⟨{ cls := .type "list", data := .seq us.toArray }, ?_⟩)
      rw [hH]
      unfold H0
      rw [if_pos rfl, hk]
    | some o =>
      have e := kin a o hk
      rw [hl] at e
      cases e
      exact .inr ⟨_, us.toArray, _, hk, rfl, rfl, rfl, by rw [List.size_toArray, hi.length]; exact hz, by simpa using vals⟩
  have hok : HOk P w H s.heap := fun b u q => by
    rcases som q with ⟨rfl, _, rfl⟩ | ⟨_, ⟨p, h1, rfl⟩, rfl⟩
    · exact ⟨hl, by rw [List.length_map]; exact hz, us, _, vals, hl⟩
    · exact hT p h1
  have bas : ∀ {b : Addr} {o : Obj}, s.heap.get? b = some o → H b = none → (hidT s.heap H).get? b = some o := fun e n => hidT_get e n
  have nsB : ∀ {b : Addr} {m : Str → Option Value}, s.heap.Ns b m → (hidT s.heap H).Ns b m := fun {b m} z => by
    obtain ⟨o, es, ep, e, d, r⟩ := z
    have n : H b = none := non e (fun vs n q => by rw [d] at q; cases q) (fun q => by rw [d] at q; cases q)
    exact ⟨o, es, ep, bas e n, d, r⟩
  have kinB : K.In (hidT s.heap H) := fun b o hk => by
    refine bas (kin b o hk) ?_
    cases q : H b with
    | none => rfl
    | some u =>
      rcases som q with ⟨rfl, h2, _⟩ | ⟨_, ⟨p, h1, rfl⟩, _⟩
      · rw [h2] at hk; cases hk
      · rw [nT p h1] at hk; cases hk
  have modB : Mod K mg (hidT s.heap H) := by
    obtain ⟨ml, l1, l2⟩ := nol
    exact ⟨kinB, nsB gns, ⟨mb, nsB bns, boot⟩, ml, nsB l1, l2⟩
  have tabB : ∀ p ∈ cs, GxR.TabB (hidT s.heap H) mg p.1 p.2 := fun p hp => by
    constructor
    · obtain ⟨o, vs, fl, tf, gs, tg, nf, tx, tt, e, d1, d2, d3, rs⟩ := hC p hp
      refine ⟨o, vs, fl, tf, gs, tg, nf, tx, tt, bas e (non e (fun us n q => ?_) fun q => ?_), d1, d2, d3, rs⟩
      · rw [d2] at q; cases q
      · rw [d2] at q
        injection q with q
        subst q
        simp at d3
    · obtain ⟨m, o, m1, m2, m3, m4, m5, m6⟩ := bm
      refine ⟨m, o, m1, m2, fun z => ?_, fun z => ?_, bas m3 (non m3 (fun us n q => ?_) fun q => ?_), m4, m5, m6⟩
      · obtain ⟨o', es, ep, e, d, _⟩ := gns
        rw [z, e] at m3
        cases m3
        rw [d] at m6
        cases m6
      · rw [z, hT p hp] at m3
        cases m3
        cases m6
      · rw [m6] at q; cases q
      · rw [m6] at q; cases q
    · intro z
      obtain ⟨o', es, ep, e, d, _⟩ := gns
      rw [z, hT p hp] at e
      cases e
      cases d
  have env : Env0 P w K mg (hidT s.heap H) callerA [] s H := by
    refine ⟨rfl, modB, fun b o e => of_hidT e, Nat.le_of_eq (hidT_size _ _), trivial, fun b hb => ?_, hok, .of_eq gens⟩
    cases hb
  have main := (F _ kinB (nsB gns) tabB).run callerA [] s H ⟨[.ref a], []⟩ [.ref a] [.ref a] _ _ rfl hr env (hbd s (.ref a)) (.cons rfl .nil) (hsp H tbl script)
  refine codeAny_mono main fun r s' h => ?_
  match r, h with
  | .error e, h => exact (hX H e s' h).elim
  | .ok (.ret u), h =>
    obtain ⟨v, H', os, bare, un, hok', rv, q⟩ := h
    have q : v = .bl true := q
    subst q
    obtain rfl : u = Value.bool true := rv
    have same : ∀ b o, (∀ p ∈ cs, p.2 ≠ b) → s.heap.get? b = some o → s'.heap.get? b = some o := fun b o nb e => by
      cases q : H b with
      | none => exact un.keep b o e q (fun z => by cases z) (fun z => by cases z)
      | some u =>
        rcases som q with ⟨rfl, _, rfl⟩ | ⟨_, ⟨p, h1, h2⟩, _⟩
        · obtain ⟨e1, _⟩ := hok _ _ q
          obtain ⟨e2, _⟩ := hok' _ _ (un.frzs _ _ _ q)
          rw [e1] at e
          cases e
          exact e2
        · exact absurd h2 (nb p h1)
    have more : ∀ p ∈ cs, ∃ vs : Array Value, s'.heap.get? p.2 = some { cls := .none, data := .fields vs } := fun p hp => by
      obtain ⟨vs, z⟩ := un.tbls p.2 #[] (tbl p hp)
      exact ⟨_, hok' _ _ z⟩
    refine ⟨rfl, ⟨fun b o e => ?_, fun b o e => ?_⟩, os, bare⟩
    · by_cases hb : ∃ p ∈ cs, p.2 = b
      · obtain ⟨p, hp, rfl⟩ := hb
        obtain ⟨vs, ev⟩ := more p hp
        rw [hT p hp] at e
        cases e
        exact .inr (.inl ⟨((hC p hp).tab (hT p hp)).isCodeTable, rfl, #[], vs, rfl, by rw [ev, Array.empty_append]⟩)
      · exact .inl (same b o (fun p hp z => hb ⟨p, hp, z⟩) e)
    · by_cases hb : ∃ p ∈ cs, p.2 = b
      · obtain ⟨p, hp, rfl⟩ := hb
        obtain ⟨vs, ev⟩ := more p hp
        exact ⟨_, ev⟩
      · exact ⟨o, same b o (fun p hp z => hb ⟨p, hp, z⟩) e⟩
end
/-- what is known of the law's promise at the head's heap -/
def LawAtR (l : PySem.W.OpenLaw) (w : World) (K : PySem.W.Frag) (CX : CXT) (k n : Nat) (x : Str) (mg : Str → Option Value) (fa : Addr) (h : Heap) : Prop :=
  ∃ (fd : FuncData) (cs : List (Addr × Addr)) (sp : Sp), (∀ p ∈ cs, h.get? p.2 = some { cls := .none, data := .fields #[] }) ∧ (∀ p ∈ cs, K.lookup p.2 = none) ∧ (∀ p ∈ cs, PySem.W.CodeHd h p.1 p.2) ∧
    (∀ (s : Shared) (u : Value), BindsTo s fd ⟨[u], []⟩ [(x, u)]) ∧ (∀ (H : Hp) (a : Addr) (ns : List Int), ns.length ≤ n → Bits ns → (∀ p ∈ cs, H p.2 = some (.tbl #[])) → SqL K H a (ns.map V.int) → sp [.ref a] H (fun v _ => v = .bl true) fun _ _ _ => False) ∧
    ∀ base : Heap, K.In base → base.Ns mainGlobals mg → (∀ p ∈ cs, GxR.TabB base mg p.1 p.2) → FnOkG (fun A => A.guards = some []) l.prog w K mg base CX k fa fd [x] sp
theorem walk_ofR {l : PySem.W.OpenLaw} {n k : Nat} {q : Program} {loose : List Str} {XP : (Str → Option Value) → Heap → Prop} {YP : World → Heap → Prop} {d : DefRec} {K : Params → PySem.W.Frag} {CX : World → CXT} {x : Str}
    (hn : l.most = some n) (hz : n ≤ sizeLine) (hd : d.params.defaults = []) (hr : Room k callerA) (hY : ∀ (w : World) (h : Heap), YP w h → (K w.params).In h)
    (F : ∀ (w : World) (mg : Str → Option Value) (fa : Addr) (h : Heap), YP w h → (K w.params).In h → h.Ns mainGlobals mg → mg d.name = some (.ref fa) → Tabs q mg h → LawAtR l w (K w.params) (CX w) k n x mg fa h)
    (hX : ∀ (w : World) (H : Hp) (s : Shared) (e : Value) (s' : Shared), CX w [] H s (fun _ _ _ => False) e s' → False) :
    PySem.W.WalkO q loose XP YP l.row.toRowW d [] (fun f vs => PySem.call f vs) := by
  refine Att.attach_callB hn hd fun w s0 s1 mg mb fa o pm cd doc a us ns G Y _ _ _ hfa hl hi hlen hbits gens => ?_
  have kin := hY w _ Y
  obtain ⟨fd, cs, sp, hT, nT, hC, hb, hsp, hF⟩ := F w mg fa _ Y kin G.T.g hfa G.T.tab
  exact law_endG kin G.T.g G.T.b G.T.builtins G.T.nolimit gens hT nT hC G.T.bmain hl hi (Nat.le_trans hlen hz) hr hF hb (fun H h1 h2 => hsp H a ns hlen hbits h1 h2) fun H e s' => hX w H s1 e s'
end Fh
/-! Small lemmas over the evaluator. -/
namespace Fh
open PySem L2 PyProof.Rows
section
variable {T : Type}
theorem bop_fdiv' {a b : Int} (h : b ≠ 0) (hl : b.natAbs.log2 < 9000) : bop .fdiv (.int a) (.int b) = some (.int (a.fdiv b)) := by
  simp [bop, h, hl]
theorem bop_mul' {a b : Int} (h : okMul a b = true) : bop .mul (.int a) (.int b) = some (.int (a * b)) := by
  simp [bop, h]
theorem bop_mod' {a b : Int} (h : b ≠ 0) : bop .mod (.int a) (.int b) = some (.int (a.fmod b)) := by
  simp [bop, h]
theorem bop_add' (a b : Int) : bop .add (.int a) (.int b) = some (.int (a + b)) := rfl
theorem bop_sub' (a b : Int) : bop .sub (.int a) (.int b) = some (.int (a - b)) := rfl
theorem exs_frR {g : Glob T} {s : Tg} {it : Ir} {b r : Ss} {ρ : Ev} {τ τ1 τ' : T} {ds : List PD} {d : PD} (h : items g it ρ τ = some (ds, τ1)) (hl : loopF (bindT s) (exs g b) ds ρ τ1 = some (.rt d τ')) : exs g (.cons (.fr s it b) r) ρ τ = some (.rt d τ') := by
  rw [exs, ex, h, Option.bind_some]
  dsimp only
  rw [hl]
  rfl
theorem loopF_findR {bd : PD → Ev → Option Ev} {body : Ev → T → Option (Out T)} {I : Ev → Prop} {r : PD} {τ : T} : ∀ (ds : List PD) (j0 : Nat) (ρ : Ev), j0 < ds.length →
    (∀ (j : Nat) (ρ : Ev) (d : PD), j < j0 → ds[j]? = some d → I ρ → ∃ ρ1 ρ2, bd d ρ = some ρ1 ∧ body ρ1 τ = some (.nx ρ2 τ) ∧ I ρ2) →
    (∀ (ρ : Ev) (d : PD), ds[j0]? = some d → I ρ → ∃ ρ1, bd d ρ = some ρ1 ∧ body ρ1 τ = some (.rt r τ)) → I ρ → loopF bd body ds ρ τ = some (.rt r τ)
  | [], j0, ρ, h, _, _, _ => absurd h (Nat.not_lt_zero _)
  | d :: ds, 0, ρ, h, _, h2, hI => by
    obtain ⟨ρ1, e1, e2⟩ := h2 ρ d rfl hI
    rw [loopF, e1, Option.bind_some, e2]
    rfl
  | d :: ds, j0 + 1, ρ, h, h1, h2, hI => by
    obtain ⟨ρ1, ρ2, e1, e2, hI2⟩ := h1 0 ρ d (Nat.succ_pos _) rfl hI
    rw [loopF, e1, Option.bind_some, e2]
    exact loopF_findR ds j0 ρ2 (by rw [List.length_cons] at h; omega) (fun j ρ d hj hd hI => h1 (j + 1) ρ d (by omega) (by simpa using hd) hI) (fun ρ d hd hI => h2 ρ d (by simpa using hd) hI) hI2
theorem items_r2 {g : Glob T} {a b : E} {ρ : Ev} {τ τ1 τ2 : T} {i j : Int} (h1 : ev g a ρ τ = some (.int i, τ1)) (h2 : ev g b ρ τ1 = some (.int j, τ2)) (i0 : -1000000 ≤ i) (i1 : i ≤ 1000000) (j0 : -1000000 ≤ j) (j1 : j ≤ 1000000) : items g (.rng2 a b) ρ τ = some ((rangeI i (j - i).toNat).map .int, τ2) := by
  rw [items, h1, Option.bind_some]
  dsimp only
  rw [h2, Option.bind_some]
  dsimp only
  rw [if_pos (by rw [small_smallR i0 i1, small_smallR j0 j1]; rfl), rangeD_I]
theorem rangeI_app1 : ∀ (k : Nat) (lo : Int), rangeI lo (k + 1) = rangeI lo k ++ [lo + k]
  | 0, lo => by simp [rangeI]
  | k + 1, lo => by
    rw [rangeI, rangeI_app1 k (lo + 1), rangeI]
    simp
    omega
theorem rangeI_N (k : Nat) : rangeI 0 k = (List.range k).map fun i : Nat => (i : Int) := by
  induction k with
  | zero => rfl
  | succ k ih => rw [rangeI_app1, ih, List.range_succ, List.map_append]; simp
/-- range(1, k) as naturals -/
theorem rangeI_1 : ∀ k : Nat, rangeI 1 k = (List.range' 1 k).map fun i : Nat => (i : Int)
  | 0 => rfl
  | k + 1 => by rw [rangeI_app1, rangeI_1 k, List.range'_1_concat, List.map_append]; simp
theorem filter_one {p : Nat → Bool} {a : Nat} : ∀ (k s : Nat), s ≤ a → a < s + k → (∀ i, s ≤ i → i < s + k → p i = decide (i = a)) → (List.range' s k).filter p = [a]
  | 0, s, h0, h1, _ => by omega
  | k + 1, s, h0, h1, hp => by
    rw [List.range'_succ, List.filter_cons, hp s (Nat.le_refl _) (by omega)]
    by_cases h : s = a
    · subst h
      rw [decide_eq_true rfl, if_pos rfl, List.filter_eq_nil_iff.mpr fun i hi => ?_]
      rw [List.mem_range'_1] at hi
      rw [hp i (by omega) (by omega)]
      simp
      omega
    · rw [decide_eq_false h, if_neg (by decide)]
      exact filter_one k (s + 1) (by omega) (by omega) fun i h2 h3 => hp i (by omega) (by omega)
theorem fdivN (a b : Nat) : (a : Int).fdiv b = ((a / b : Nat) : Int) := by
  rw [Int.fdiv_eq_ediv_of_nonneg _ (by omega)]; rfl
theorem fmodN (a b : Nat) : (a : Int).fmod b = ((a % b : Nat) : Int) := by
  rw [Int.fmod_eq_emod_of_nonneg _ (by omega)]; rfl
theorem smN {k n : Nat} (h : k < 2 ^ n) : Sm n (k : Int) := by unfold Sm; omega
theorem ev_me1 {g : Glob T} {m : Me} {a b : E} {ρ : Ev} {τ τ1 τ2 : T} {d e r : PD} (h1 : ev g a ρ τ = some (d, τ1)) (h2 : ev g b ρ τ1 = some (e, τ2)) (h : pme m d [e] = some r) : ev g (.me m a (.cons b .nil)) ρ τ = some (r, τ2) := by
  rw [ev, h1, Option.bind_some, evs]
  dsimp only
  rw [h2, Option.bind_some]
  dsimp only
  rw [evs, Option.map_some, Option.bind_some]
  dsimp only
  rw [h]
  rfl
theorem ev_slTo {g : Glob T} {a b : E} {ρ : Ev} {τ τ1 τ2 : T} {d r : PD} {i : Int} (h1 : ev g a ρ τ = some (d, τ1)) (hb : b ≠ .non) (h2 : ev g b ρ τ1 = some (.int i, τ2)) (h : psl d none (some i) = some r) : ev g (.sl a .non b) ρ τ = some (r, τ2) := by
  have e0 : ev g .non ρ τ1 = some (.none, τ1) := by rw [ev]
  have e1 : partOf b (.int i) = some (some i) := by
    unfold partOf
    cases b <;> first | rfl | exact absurd rfl hb
  rw [ev, h1, Option.bind_some]
  dsimp only
  rw [e0, Option.bind_some]
  dsimp only
  rw [h2, Option.bind_some]
  dsimp only
  rw [show partOf .non .none = some none from rfl, e1, Option.bind_some, Option.bind_some, h]
  rfl
theorem ev_slFrom {g : Glob T} {a b : E} {ρ : Ev} {τ τ1 τ2 : T} {d r : PD} {i : Int} (h1 : ev g a ρ τ = some (d, τ1)) (hb : b ≠ .non) (h2 : ev g b ρ τ1 = some (.int i, τ2)) (h : psl d (some i) none = some r) : ev g (.sl a b .non) ρ τ = some (r, τ2) := by
  have e0 : ev g .non ρ τ2 = some (.none, τ2) := by rw [ev]
  have e1 : partOf b (.int i) = some (some i) := by
    unfold partOf
    cases b <;> first | rfl | exact absurd rfl hb
  rw [ev, h1, Option.bind_some]
  dsimp only
  rw [h2, Option.bind_some]
  dsimp only
  rw [e0, Option.bind_some]
  dsimp only
  rw [e1, show partOf .non .none = some none from rfl, Option.bind_some, Option.bind_some, h]
  rfl
theorem ev_ix {g : Glob T} {a b : E} {ρ : Ev} {τ τ1 τ2 : T} {d e r : PD} (h1 : ev g a ρ τ = some (d, τ1)) (h2 : ev g b ρ τ1 = some (e, τ2)) (h : pix d e = some r) : ev g (.ix a b) ρ τ = some (r, τ2) := by
  rw [ev, h1, Option.bind_some]
  dsimp only
  rw [h2, Option.bind_some]
  dsimp only
  rw [h]
  rfl
theorem ev_and1 {g : Glob T} {a : E} {ρ : Ev} {τ : T} : ev g (.ands (.cons a .nil)) ρ τ = ev g a ρ τ := by
  rw [ev, evAnd]
  cases ev g a ρ τ <;> rfl
theorem ev_andB {g : Glob T} {a b : E} {es : Es} {ρ : Ev} {τ τ1 : T} {c : Bool} (h : ev g a ρ τ = some (.bool c, τ1)) : ev g (.ands (.cons a (.cons b es))) ρ τ = if c then ev g (.ands (.cons b es)) ρ τ1 else some (.bool false, τ1) := by
  rw [ev, evAnd, h, Option.bind_some]
  dsimp only
  cases c with
  | true =>
    rw [ev]
    rfl
  | false => rfl
theorem ev_or1 {g : Glob T} {a : E} {ρ : Ev} {τ : T} : ev g (.ors (.cons a .nil)) ρ τ = ev g a ρ τ := by
  rw [ev, evOr]
  cases ev g a ρ τ <;> rfl
theorem ev_orB {g : Glob T} {a b : E} {es : Es} {ρ : Ev} {τ τ1 : T} {c : Bool} (h : ev g a ρ τ = some (.bool c, τ1)) : ev g (.ors (.cons a (.cons b es))) ρ τ = if c then some (.bool true, τ1) else ev g (.ors (.cons b es)) ρ τ1 := by
  rw [ev, evOr, h, Option.bind_some]
  dsimp only
  cases c with
  | true => rfl
  | false =>
    rw [ev]
    rfl
theorem exs_ret {g : Glob T} {e : E} {r : Ss} {ρ : Ev} {τ τ1 : T} {d : PD} (h : ev g e ρ τ = some (d, τ1)) : exs g (.cons (.ret e) r) ρ τ = some (.rt d τ1) := exs_rt (by rw [ex, h]; rfl)
theorem exs_set {g : Glob T} {i : Nat} {e : E} {r : Ss} {ρ : Ev} {τ τ1 : T} {d : PD} (hi : i < ρ.length) (h : ev g e ρ τ = some (d, τ1)) : exs g (.cons (.set i e) r) ρ τ = exs g r (put ρ i (.sh d)) τ1 := exs_nx (by
  rw [ex, h, Option.bind_some]
  exact if_pos hi)
theorem get_ne {ρ : Ev} {i j : Nat} {x : Option Sl} (h : i ≠ j) : get (ρ.set i x) j = get ρ j := by
  unfold get
  rw [List.getElem?_set_ne h]
theorem get_eqS {ρ : Ev} {i : Nat} {d : PD} (h : i < ρ.length) : get (ρ.set i (some (.sh d))) i = some d := by
  unfold get
  rw [List.getElem?_set_self h]
theorem ev_tup2 {g : Glob T} {a b : E} {ρ : Ev} {τ τ1 τ2 : T} {d e : PD} (h1 : ev g a ρ τ = some (d, τ1)) (h2 : ev g b ρ τ1 = some (e, τ2)) : ev g (.tup (.cons a (.cons b .nil))) ρ τ = some (.tuple [d, e], τ2) := by
  have ok : okLen 2 = true := by decide +kernel
  rw [ev, evs, h1, Option.bind_some, evs]
  dsimp only
  rw [h2, Option.bind_some, evs]
  exact (if_pos (c := okLen 2 = true) ok : (if okLen 2 = true then some (PyData.tuple [d, e], τ2) else none) = _)
theorem ev_neg1 {g : Glob T} {ρ : Ev} {τ : T} {i : Int} : ev g (.neg (.int i)) ρ τ = some (.int (-i), τ) := by rw [ev, ev]; rfl
theorem lay_of_shaped {d : PD} (h : SeqAt.shaped d = true) : d.canLay0 = true := by
  unfold SeqAt.shaped at h
  rw [Bool.and_eq_true] at h
  exact h.1
theorem ne_same {d : PD} (h : SeqAt.shaped d = true) : cop .ne d d = some false := by
  rw [cop_ne h h, SeqAt.eqv_refl d (lay_of_shaped h)]
  rfl
theorem eq_same {d : PD} (h : SeqAt.shaped d = true) : cop .eq d d = some true := by
  rw [cop_eq h h, SeqAt.eqv_refl d (lay_of_shaped h)]
theorem ev_lst2 {g : Glob T} {a b : E} {ρ : Ev} {τ τ1 τ2 : T} {d e : PD} (h1 : ev g a ρ τ = some (d, τ1)) (h2 : ev g b ρ τ1 = some (e, τ2)) : ev g (.lst (.cons a (.cons b .nil))) ρ τ = some (.list [d, e], τ2) := by
  have ok : okLen 2 = true := by decide +kernel
  rw [ev, evs, h1, Option.bind_some, evs]
  dsimp only
  rw [h2, Option.bind_some, evs]
  exact (if_pos (c := okLen 2 = true) ok : (if okLen 2 = true then some (PyData.list [d, e], τ2) else none) = _)
/-- a test that no part of holds -/
theorem ors_f {g : Glob T} {a b : E} {es : Es} {ρ : Ev} {τ τ1 : T} {o : Option (Bool × T)} (h : evT g a ρ τ = some (false, τ1)) (h2 : evT g (.ors (.cons b es)) ρ τ1 = o) : evT g (.ors (.cons a (.cons b es))) ρ τ = o := by
  rw [evT_or h]
  exact h2
theorem ors_1 {g : Glob T} {a : E} {ρ : Ev} {τ : T} {o : Option (Bool × T)} (h : evT g a ρ τ = o) : evT g (.ors (.cons a .nil)) ρ τ = o := by rw [evT_or1, h]
theorem t_ne {g : Glob T} {a b : E} {ρ : Ev} {τ τ1 τ2 : T} {d : PD} (h1 : ev g a ρ τ = some (d, τ1)) (h2 : ev g b ρ τ1 = some (d, τ2)) (h : SeqAt.shaped d = true) : evT g (.cmp .ne a b) ρ τ = some (false, τ2) := evT_b (ev_cmp h1 h2 (ne_same h))
theorem t_neI {g : Glob T} {a b : E} {ρ : Ev} {τ τ1 τ2 : T} {i j : Int} (h1 : ev g a ρ τ = some (.int i, τ1)) (h2 : ev g b ρ τ1 = some (.int j, τ2)) (h : i = j) : evT g (.cmp .ne a b) ρ τ = some (false, τ2) := by
  subst h
  exact t_ne h1 h2 (shaped_int' i)
theorem exs_app {g : Glob T} {i : Nat} {e : E} {r : Ss} {ρ : Ev} {τ τ1 : T} {d : PD} {xs : List PD} (h : ev g e ρ τ = some (d, τ1)) (ho : getO ρ i = some xs) (hl : xs.length ≤ 100000) : exs g (.cons (.app i e) r) ρ τ = exs g r (put ρ i (.ow (xs ++ [d]))) τ1 := exs_nx (by
  rw [ex, h, Option.bind_some, ho]
  exact if_pos (decide_eq_true (by rw [sizeLine_eq]; omega)))
theorem exs_own {g : Glob T} {i : Nat} {e : E} {r : Ss} {ρ : Ev} {τ τ1 : T} {xs : List PD} (hi : i < ρ.length) (h : ev g e ρ τ = some (.list xs, τ1)) : exs g (.cons (.own i e) r) ρ τ = exs g r (put ρ i (.ow xs)) τ1 := exs_nx (by
  rw [ex, h, Option.bind_some]
  exact if_pos hi)
theorem ev_nilL {g : Glob T} {ρ : Ev} {τ : T} : ev g (.lst .nil) ρ τ = some (.list [], τ) := by
  have ok : okLen 0 = true := by decide +kernel
  rw [ev, evs]
  exact (if_pos (c := okLen 0 = true) ok : (if okLen 0 = true then some (PyData.list [], τ) else none) = _)
theorem ev_tup4 {g : Glob T} {a b c d : E} {ρ : Ev} {τ τ1 τ2 τ3 τ4 : T} {x y z w : PD} (h1 : ev g a ρ τ = some (x, τ1)) (h2 : ev g b ρ τ1 = some (y, τ2)) (h3 : ev g c ρ τ2 = some (z, τ3)) (h4 : ev g d ρ τ3 = some (w, τ4)) : ev g (.tup (.cons a (.cons b (.cons c (.cons d .nil))))) ρ τ = some (.tuple [x, y, z, w], τ4) := by
  have ok : okLen 4 = true := by decide +kernel
  rw [ev, evs, h1, Option.bind_some, evs]
  dsimp only
  rw [h2, Option.bind_some, evs]
  dsimp only
  rw [h3, Option.bind_some, evs]
  dsimp only
  rw [h4, Option.bind_some, evs]
  exact (if_pos (c := okLen 4 = true) ok : (if okLen 4 = true then some (PyData.tuple [x, y, z, w], τ4) else none) = _)
theorem intsOf_I : ∀ l : List Int, intsOf (l.map .int) = some l
  | [] => rfl
  | i :: l => by rw [List.map_cons, intsOf, intsOf_I l]; rfl
theorem minL_I (x : Int) (r : List Int) : biD .minL [.list ((x :: r).map .int)] = some (.int (minI x r)) := by
  show (match intsOf ((x :: r).map PyData.int) with | some (x :: r) => some (PyData.int (minI x r)) | _ => _) = _
  rw [intsOf_I]
theorem exs_par2 {g : Glob T} {i j : Nat} {a b : E} {r : Ss} {ρ : Ev} {τ τ1 τ2 : T} {d e : PD} (hi : i < ρ.length) (hj : j < ρ.length) (hn : i ≠ j) (h1 : ev g a ρ τ = some (d, τ1)) (h2 : ev g b ρ τ1 = some (e, τ2)) : exs g (.cons (.par2 i j a b) r) ρ τ = exs g r (put (put ρ i (.sh d)) j (.sh e)) τ2 := exs_nx (by
  rw [ex, h1, Option.bind_some]
  dsimp only
  rw [h2, Option.bind_some]
  simp [hi, hj, hn])
end
end Fh
/-! Coverings by lists: keys are lists of ints. -/
namespace Fh
open PySem L2 PyProof.Rows
namespace Cv
abbrev Q := List Int
def lexB : List Int → List Int → Bool
  | x :: xs, y :: ys => if x = y then lexB xs ys else decide (x < y)
  | [], _ :: _ => true
  | _, [] => false
theorem pLtA_ints : ∀ x y : List Int, pLtA (x.map .int) (y.map .int) = lexB x y
  | [], [] => by simp [pLtA, lexB]
  | [], y :: ys => by simp [pLtA, lexB]
  | x :: xs, [] => by simp [pLtA, lexB]
  | x :: xs, y :: ys => by
    rw [List.map_cons, List.map_cons, pLtA, lexB, eqv_int, pLtA_ints xs ys]
    by_cases h : x = y
    · rw [decide_eq_true h, if_pos rfl, if_pos h]
    · rw [decide_eq_false h, if_neg (by decide), if_neg h]
      rfl
theorem pLt_tp (x y : List Int) : pLt (tp x) (tp y) = lexB x y := by
  show pLtA (x.map .int) (y.map .int) = _
  exact pLtA_ints x y
def leQ (a b : Q) : Bool := !lexB b a
def srtQ (l : List Q) : List Q := insSort leQ l
theorem sortD_tp (l : List Q) : sortD (l.map tp) = (srtQ l).map tp := insSort_map tp l fun x _ y _ => by rw [pLt_tp]; rfl
theorem sortable_tp {l : List Q} (h : ∀ x ∈ l, x ≠ []) : sortable (l.map tp) = true := by
  have hT : (l.map tp).all isIntT = true := List.all_eq_true.mpr fun d hd => by
    obtain ⟨t, ht, rfl⟩ := List.mem_map.mp hd
    cases t with
    | nil => exact absurd rfl (h _ ht)
    | cons i t =>
      show (isInt (.int i) && (t.map PyData.int).all isInt) = true
      rw [List.all_map, show t.all (isInt ∘ PyData.int) = true from List.all_eq_true.mpr fun _ _ => rfl]
      rfl
  unfold sortable
  rw [hT]
  simp
theorem srtQ_mem {l : List Q} {x : Q} : x ∈ srtQ l ↔ x ∈ l := (insSort_perm l).mem_iff
theorem srtQ_len (l : List Q) : (srtQ l).length = l.length := (insSort_perm l).length_eq
/-! ### keys -/
def keyT (x : Q) : List L2.Key := x.map .inl
theorem keyT_inj {x y : Q} (h : keyT x = keyT y) : x = y := by
  unfold keyT at h
  induction x generalizing y with
  | nil => cases y with | nil => rfl | cons b y => cases h
  | cons a x ih =>
    cases y with
    | nil => cases h
    | cons b y =>
      rw [List.map_cons, List.map_cons] at h
      injection h with h1 h2
      injection h1 with h1
      rw [h1, ih h2]
theorem keysP_ints : ∀ x : List Int, keysP (x.map .int) = some (x.map .inl)
  | [] => rfl
  | a :: x => by
    rw [List.map_cons, List.map_cons, keysP, keysP_ints x]
    rfl
theorem keyD_tp {n : Nat} (h0 : n ≠ 0) {x : Q} (h : x.length = n) : keyD n (tp x) = some (keyT x) := by
  unfold keyD
  rw [if_neg h0]
  show (if (x.map PyData.int).length = n then keysP (x.map .int) else none) = _
  rw [List.length_map, if_pos h, keysP_ints]
  rfl
theorem keyOut_tp {n : Nat} (h0 : n ≠ 0) (x : Q) : keyOut n (keyT x) = tp x := by
  unfold keyOut keyT
  rw [if_neg h0, List.map_map]
  rfl
def addQ (l : List Q) (x : Q) : List Q := if x ∈ l then l else l ++ [x]
def kvQ (l : List Q) : List (List L2.Key × PD) := l.map fun x => (keyT x, .bool true)
theorem kvQ_len (l : List Q) : (kvQ l).length = l.length := by simp [kvQ]
theorem any_kvQ (l : List Q) (x : Q) : (kvQ l).any (fun kv => decide (kv.1 = keyT x)) = decide (x ∈ l) := by
  unfold kvQ
  induction l with
  | nil => rfl
  | cons y l ih =>
    rw [List.map_cons, List.any_cons, ih, Bool.eq_iff_iff, Bool.or_eq_true, decide_eq_true_eq, decide_eq_true_eq, decide_eq_true_eq, List.mem_cons]
    exact ⟨fun h => h.imp (fun z => (keyT_inj z).symm) id, fun h => h.imp (fun z => by rw [z]) id⟩
theorem put_kvQ (l : List Q) (x : Q) : putD (kvQ l) (keyT x) (.bool true) = kvQ (addQ l x) := by
  unfold putD addQ
  rw [any_kvQ]
  by_cases h : x ∈ l
  · rw [decide_eq_true h, if_pos rfl, if_pos h]
    unfold kvQ
    clear h
    induction l with
    | nil => rfl
    | cons y l ih =>
      rw [List.map_cons, List.map_cons, ih]
      congr 1
      by_cases z : keyT y = keyT x
      · rw [if_pos z]
      · rw [if_neg z]
  · rw [decide_eq_false h, if_neg (by decide), if_neg h]
    unfold kvQ
    rw [List.map_append]
    rfl
theorem val_kvQ (l : List Q) (x : Q) : (valD (kvQ l) (keyT x)).isSome = decide (x ∈ l) := by
  rw [← any_kvQ]
  unfold valD
  rw [Option.isSome_map, List.isSome_find?]
theorem mem_addQ {l : List Q} {x y : Q} : y ∈ addQ l x ↔ y ∈ l ∨ y = x := by
  unfold addQ
  split
  · rename_i h
    exact ⟨.inl, fun z => z.elim id fun z => by rw [z]; exact h⟩
  · rw [List.mem_append, List.mem_singleton]
theorem addQ_len (l : List Q) (x : Q) : (addQ l x).length ≤ l.length + 1 := by
  unfold addQ
  split <;> simp
/-! ### numbers of points -/
def kvP : Int → List Q → List (List L2.Key × PD) → List (List L2.Key × PD)
  | _, [], kvs => kvs
  | i, x :: l, kvs => kvP (i + 1) l (putD kvs (keyT x) (.int i))
theorem kv_put_same {kvs : List (List L2.Key × PD)} {k : List L2.Key} {d : PD} : valD (putD kvs k d) k = some d := by
  unfold putD
  split
  · rename_i h
    induction kvs with
    | nil => cases h
    | cons kv kvs ih =>
      rw [List.map_cons]
      by_cases z : kv.1 = k
      · rw [if_pos z]
        unfold valD
        rw [List.find?_cons]
        simp [z]
      · rw [if_neg z]
        rw [List.any_cons, decide_eq_false z, Bool.false_or] at h
        have := ih h
        unfold valD at this ⊢
        rw [List.find?_cons, decide_eq_false z]
        exact this
  · rename_i h
    unfold valD
    rw [List.find?_append]
    have : kvs.find? (fun kv => decide (kv.1 = k)) = none := by
      rw [List.find?_eq_none]
      intro kv hkv hc
      exact h (List.any_eq_true.mpr ⟨kv, hkv, hc⟩)
    rw [this]
    simp
theorem kv_put_ne {kvs : List (List L2.Key × PD)} {k k' : List L2.Key} {d : PD} (hne : k ≠ k') : valD (putD kvs k d) k' = valD kvs k' := by
  unfold putD
  split
  · rename_i h
    clear h
    induction kvs with
    | nil => rfl
    | cons kv kvs ih =>
      rw [List.map_cons]
      unfold valD at ih ⊢
      rw [List.find?_cons, List.find?_cons]
      by_cases z : kv.1 = k
      · rw [if_pos z]
        have z2 : ¬ kv.1 = k' := fun y => hne (z.symm.trans y)
        rw [decide_eq_false z2]
        exact ih
      · rw [if_neg z]
        by_cases z2 : kv.1 = k'
        · rw [decide_eq_true z2]
        · rw [decide_eq_false z2]
          exact ih
  · unfold valD
    rw [List.find?_append]
    cases kvs.find? (fun kv => decide (kv.1 = k')) with
    | some y => rfl
    | none => simp [hne]
theorem kvP_not : ∀ (l : List Q) (i : Int) (kvs : List (List L2.Key × PD)) (x : Q), x ∉ l → valD (kvP i l kvs) (keyT x) = valD kvs (keyT x)
  | [], i, kvs, x, h => rfl
  | y :: l, i, kvs, x, h => by
    rw [kvP, kvP_not l _ _ x fun z => h (List.mem_cons_of_mem _ z), kv_put_ne fun z => h (by rw [keyT_inj z]; exact List.mem_cons_self)]
/-- the place of x -/
def ixQ : List Q → Q → Nat
  | [], _ => 0
  | y :: l, x => if y = x then 0 else ixQ l x + 1
theorem ixQ_at : ∀ {l : List Q} {x : Q}, x ∈ l → l[ixQ l x]? = some x
  | y :: l, x, h => by
    unfold ixQ
    by_cases e : y = x
    · rw [if_pos e, List.getElem?_cons_zero, e]
    · rw [if_neg e, List.getElem?_cons_succ]
      exact ixQ_at ((List.mem_cons.mp h).resolve_left fun z => e z.symm)
theorem ixQ_lt {l : List Q} {x : Q} (h : x ∈ l) : ixQ l x < l.length := (List.getElem?_eq_some_iff.mp (ixQ_at h)).1
theorem ixQ_of {l : List Q} (hn : l.Nodup) {i : Nat} {x : Q} (h : l[i]? = some x) : ixQ l x = i := by
  induction l generalizing i with
  | nil => simp at h
  | cons y l ih =>
    rw [List.nodup_cons] at hn
    unfold ixQ
    cases i with
    | zero =>
      rw [List.getElem?_cons_zero] at h
      rw [if_pos (Option.some.inj h)]
    | succ i =>
      rw [List.getElem?_cons_succ] at h
      have hx : x ∈ l := List.mem_of_getElem? h
      rw [if_neg fun z => hn.1 (by rw [z]; exact hx), ih hn.2 h]
theorem kvP_val : ∀ (l : List Q) (i : Int) (kvs : List (List L2.Key × PD)) (x : Q), l.Nodup → x ∈ l → valD (kvP i l kvs) (keyT x) = some (.int (i + (ixQ l x : Nat)))
  | y :: l, i, kvs, x, hn, h => by
    rw [List.nodup_cons] at hn
    rw [kvP]
    unfold ixQ
    by_cases e : y = x
    · subst e
      rw [if_pos rfl, kvP_not l _ _ y hn.1, kv_put_same]
      simp
    · rw [if_neg e, kvP_val l _ _ x hn.2 ((List.mem_cons.mp h).resolve_left fun z => e z.symm)]
      congr 2
      omega
theorem kvP_len : ∀ (l : List Q) (i : Int) (kvs : List (List L2.Key × PD)), (kvP i l kvs).length ≤ kvs.length + l.length
  | [], i, kvs => by simp [kvP]
  | y :: l, i, kvs => by
    rw [kvP, List.length_cons]
    have h1 := kvP_len l (i + 1) (putD kvs (keyT y) (.int i))
    have h2 : (putD kvs (keyT y) (.int i)).length ≤ kvs.length + 1 := by
      unfold putD
      split <;> simp
    omega
/-- where f leads each point -/
def prm (P : List Q) (f : Q → Q) : List Int := P.map fun x => (ixQ P (f x) : Int)
/-! ### what the law asks of a covering -/
def ixI (l : List Int) (v : Int) : Int := (l[v.toNat]?).getD 0
def addI (l : List Int) (x : Int) : List Int := if x ∈ l then l else l ++ [x]
def bfsS (S R : List Int) (seen : List Int) (at' : Int) : List Int :=
  if at' < seen.length then addI (addI seen (ixI S (ixI seen at'))) (ixI R (ixI (addI seen (ixI S (ixI seen at'))) at')) else seen
def bfsI (S R : List Int) : List Int := (rangeI 0 S.length).foldl (bfsS S R) [0]
def rt3 (S R : List Int) : Bool := (rangeI 0 S.length).all fun x => decide (ixI S (ixI S x) = x) && decide (ixI R (ixI R (ixI R x)) = x)
structure Cov (S R : List Int) : Prop where
  len : R.length = S.length
  pos : 0 < S.length
  big : S.length ≤ 400
  s : sI S = rangeI 0 S.length
  r : sI R = rangeI 0 S.length
  t : rt3 S R = true
  b : (bfsI S R).length = S.length
def covB (S R : List Int) : Bool := decide (R.length = S.length) && decide (0 < S.length) && decide (S.length ≤ 400) && decide (sI S = rangeI 0 S.length) && decide (sI R = rangeI 0 S.length) && rt3 S R && decide ((bfsI S R).length = S.length)
theorem cov_of {S R : List Int} (h : covB S R = true) : Cov S R := by
  unfold covB at h
  simp only [Bool.and_eq_true, decide_eq_true_eq] at h
  obtain ⟨⟨⟨⟨⟨⟨h1, h2⟩, h3⟩, h4⟩, h5⟩, h6⟩, h7⟩ := h
  exact ⟨h1, h2, h3, h4, h5, h6, h7⟩
theorem Cov.inS {S R : List Int} (h : Cov S R) {x : Int} (hx : x ∈ S) : 0 ≤ x ∧ x < S.length := by
  have := rangeI_mem (h.s ▸ (sI_perm S).mem_iff.mpr hx)
  omega
theorem Cov.inR {S R : List Int} (h : Cov S R) {x : Int} (hx : x ∈ R) : 0 ≤ x ∧ x < S.length := by
  have := rangeI_mem (h.r ▸ (sI_perm R).mem_iff.mpr hx)
  omega
end Cv
end Fh
namespace Fh
open PySem L2 PyProof.Rows
namespace Cv
def modQ (n : Int) (m : Q) : Q := m.map fun x => x.fmod n
def negQ (n : Int) (m : Q) : Q := m.map fun x => (-x).fmod n
def tclL (n : Int) (m : Q) : Q := if lexB (negQ n m) (modQ n m) then negQ n m else modQ n m
def stS : Q → Q
  | [a, b, c, d] => [b, -a, d, -c]
  | [c, d] => [d, -c]
  | x => x
def stR : Q → Q
  | [a, b, c, d] => [b, b - a, d, d - c]
  | [c, d] => [d, d - c]
  | x => x
def stT : Q → Q
  | [a, b, c, d] => [a * 1 + b * 0, a * 1 + b * 1, c * 1 + d * 0, c * 1 + d * 1]
  | x => x
def oneRow (n c : Int) (l : List Q) : List Q := (rangeI 0 n.toNat).foldl (fun l d => if gI (gI c d) n = 1 then addQ l (tclL n [c, d]) else l) l
def foundOne (n : Int) : List Q := (rangeI 0 n.toNat).foldl (fun l c => oneRow n c l) []
def pts1 (n : Int) : List Q := srtQ (foundOne n)
def onesC (n c d : Int) : List Q := if gI (gI c d) n = 1 ∧ tclL n [c, d] = [c, d] then [[c, d]] else []
def ones (n : Int) : List Q := (rangeI 0 n.toNat).flatMap fun c => (rangeI 0 n.toNat).flatMap fun d => onesC n c d
def bstep (n : Int) (f g : Q → Q) (o : List Q) (q : Q) : List Q := addQ (addQ o (tclL n (f q))) (tclL n (g q))
def bfsW (n : Int) (f g : Q → Q) : Nat → List Q → Nat → Option (List Q)
  | 0, _, _ => none
  | k + 1, o, i => match o[i]? with
    | some q => bfsW n f g k (bstep n f g o q) (i + 1)
    | none => some o
def fst2 (n : Int) : Q := tclL n [1, 0, 0, 1]
def ptsOf (n : Int) (o : List Q) : List Q := fst2 n :: (srtQ o).filter fun x => !decide (x = fst2 n)
def ord2 (n : Int) : Option (List Q) := bfsW n stS stR 300 [fst2 n] 0
def ordL (n : Int) : Option (List Q) := bfsW n stS stT 300 [fst2 n] 0
def lenB (k : Nat) (P : List Q) : Bool := P.all fun x => decide (x.length = k)
structure Pts (n : Int) (k : Nat) (P : List Q) (S R : List Int) : Prop where
  nd : P.Nodup
  len : ∀ x ∈ P, x.length = k
  s : prm P (fun x => tclL n (stS x)) = S
  r : prm P (fun x => tclL n (stR x)) = R
  c : Cov S R
theorem pts_mk {n : Int} {k : Nat} {P : List Q} {S R : List Int} (h : (decide (P.Nodup) && lenB k P) = true) (s : prm P (fun x => tclL n (stS x)) = S) (r : prm P (fun x => tclL n (stR x)) = R) (c : covB S R = true) : Pts n k P S R := by
  rw [Bool.and_eq_true, decide_eq_true_eq] at h
  exact ⟨h.1, fun x hx => of_decide_eq_true (List.all_eq_true.mp h.2 x hx), s, r, cov_of c⟩
theorem ixQ_mem {l : List Q} {x : Q} (h : ixQ l x < l.length) : x ∈ l := by
  induction l with
  | nil => simp at h
  | cons y l ih =>
    unfold ixQ at h
    by_cases e : y = x
    · rw [e]; exact List.mem_cons_self
    · rw [if_neg e, List.length_cons] at h
      exact List.mem_cons_of_mem _ (ih (by omega))
theorem Pts.lenS {n : Int} {k : Nat} {P : List Q} {S R : List Int} (h : Pts n k P S R) : S.length = P.length := by rw [← h.s]; simp [prm]
theorem Pts.inS {n : Int} {k : Nat} {P : List Q} {S R : List Int} (h : Pts n k P S R) {x : Q} (hx : x ∈ P) : tclL n (stS x) ∈ P := by
  have h1 : (ixQ P (tclL n (stS x)) : Int) ∈ S := by rw [← h.s]; exact List.mem_map.mpr ⟨x, hx, rfl⟩
  have := h.c.inS h1
  have := h.lenS
  exact ixQ_mem (by omega)
theorem Pts.inR {n : Int} {k : Nat} {P : List Q} {S R : List Int} (h : Pts n k P S R) {x : Q} (hx : x ∈ P) : tclL n (stR x) ∈ P := by
  have h1 : (ixQ P (tclL n (stR x)) : Int) ∈ R := by rw [← h.r]; exact List.mem_map.mpr ⟨x, hx, rfl⟩
  have := h.c.inR h1
  have := h.lenS
  exact ixQ_mem (by omega)
end Cv
end Fh
namespace Fh
open PySem L2 PyProof.Rows
namespace Cv
def P1_1 : List Q := [[0, 0]]
def S1_1 : List Int := [0]
def R1_1 : List Int := [0]
theorem nd1_1 : (decide (P1_1.Nodup) && lenB 2 P1_1) = true := by decide +kernel
theorem s1_1 : prm P1_1 (fun x => tclL 1 (stS x)) = S1_1 := by decide +kernel
theorem r1_1 : prm P1_1 (fun x => tclL 1 (stR x)) = R1_1 := by decide +kernel
theorem c1_1 : covB S1_1 R1_1 = true := by decide +kernel
theorem p1_1 : pts1 1 = P1_1 := by decide +kernel
theorem o1_1 : ones 1 = P1_1 := by decide +kernel
def P1_2 : List Q := [[0, 1], [1, 0], [1, 1]]
def S1_2 : List Int := [1, 0, 2]
def R1_2 : List Int := [2, 0, 1]
theorem nd1_2 : (decide (P1_2.Nodup) && lenB 2 P1_2) = true := by decide +kernel
theorem s1_2 : prm P1_2 (fun x => tclL 2 (stS x)) = S1_2 := by decide +kernel
theorem r1_2 : prm P1_2 (fun x => tclL 2 (stR x)) = R1_2 := by decide +kernel
theorem c1_2 : covB S1_2 R1_2 = true := by decide +kernel
theorem p1_2 : pts1 2 = P1_2 := by decide +kernel
theorem o1_2 : ones 2 = P1_2 := by decide +kernel
def P1_3 : List Q := [[0, 1], [1, 0], [1, 1], [1, 2]]
def S1_3 : List Int := [1, 0, 3, 2]
def R1_3 : List Int := [2, 0, 1, 3]
theorem nd1_3 : (decide (P1_3.Nodup) && lenB 2 P1_3) = true := by decide +kernel
theorem s1_3 : prm P1_3 (fun x => tclL 3 (stS x)) = S1_3 := by decide +kernel
theorem r1_3 : prm P1_3 (fun x => tclL 3 (stR x)) = R1_3 := by decide +kernel
theorem c1_3 : covB S1_3 R1_3 = true := by decide +kernel
theorem p1_3 : pts1 3 = P1_3 := by decide +kernel
theorem o1_3 : ones 3 = P1_3 := by decide +kernel
def P1_4 : List Q := [[0, 1], [1, 0], [1, 1], [1, 2], [1, 3], [2, 1]]
def S1_4 : List Int := [1, 0, 4, 5, 2, 3]
def R1_4 : List Int := [2, 0, 1, 5, 3, 4]
theorem nd1_4 : (decide (P1_4.Nodup) && lenB 2 P1_4) = true := by decide +kernel
theorem s1_4 : prm P1_4 (fun x => tclL 4 (stS x)) = S1_4 := by decide +kernel
theorem r1_4 : prm P1_4 (fun x => tclL 4 (stR x)) = R1_4 := by decide +kernel
theorem c1_4 : covB S1_4 R1_4 = true := by decide +kernel
theorem p1_4 : pts1 4 = P1_4 := by decide +kernel
theorem o1_4 : ones 4 = P1_4 := by decide +kernel
def P1_5 : List Q := [[0, 1], [0, 2], [1, 0], [1, 1], [1, 2], [1, 3], [1, 4], [2, 0], [2, 1], [2, 2], [2, 3], [2, 4]]
def S1_5 : List Int := [2, 7, 0, 6, 11, 8, 3, 1, 5, 10, 9, 4]
def R1_5 : List Int := [3, 9, 0, 2, 8, 10, 4, 1, 6, 7, 11, 5]
theorem nd1_5 : (decide (P1_5.Nodup) && lenB 2 P1_5) = true := by decide +kernel
theorem s1_5 : prm P1_5 (fun x => tclL 5 (stS x)) = S1_5 := by decide +kernel
theorem r1_5 : prm P1_5 (fun x => tclL 5 (stR x)) = R1_5 := by decide +kernel
theorem c1_5 : covB S1_5 R1_5 = true := by decide +kernel
theorem p1_5 : pts1 5 = P1_5 := by decide +kernel
theorem o1_5 : ones 5 = P1_5 := by decide +kernel
def P1_6 : List Q := [[0, 1], [1, 0], [1, 1], [1, 2], [1, 3], [1, 4], [1, 5], [2, 1], [2, 3], [2, 5], [3, 1], [3, 2]]
def S1_6 : List Int := [1, 0, 6, 9, 10, 7, 2, 5, 11, 3, 4, 8]
def R1_6 : List Int := [2, 0, 1, 7, 11, 8, 3, 6, 10, 4, 5, 9]
theorem nd1_6 : (decide (P1_6.Nodup) && lenB 2 P1_6) = true := by decide +kernel
theorem s1_6 : prm P1_6 (fun x => tclL 6 (stS x)) = S1_6 := by decide +kernel
theorem r1_6 : prm P1_6 (fun x => tclL 6 (stR x)) = R1_6 := by decide +kernel
theorem c1_6 : covB S1_6 R1_6 = true := by decide +kernel
theorem p1_6 : pts1 6 = P1_6 := by decide +kernel
theorem o1_6 : ones 6 = P1_6 := by decide +kernel
def P1_7 : List Q := [[0, 1], [0, 2], [0, 3], [1, 0], [1, 1], [1, 2], [1, 3], [1, 4], [1, 5], [1, 6], [2, 0], [2, 1], [2, 2], [2, 3], [2, 4], [2, 5], [2, 6], [3, 0], [3, 1], [3, 2], [3, 3], [3, 4], [3, 5], [3, 6]]
def S1_7 : List Int := [3, 10, 17, 0, 9, 16, 23, 18, 11, 4, 1, 8, 15, 22, 19, 12, 5, 2, 7, 14, 21, 20, 13, 6]
def R1_7 : List Int := [4, 12, 20, 0, 3, 11, 19, 21, 13, 5, 1, 9, 10, 18, 22, 14, 6, 2, 8, 16, 17, 23, 15, 7]
theorem nd1_7 : (decide (P1_7.Nodup) && lenB 2 P1_7) = true := by decide +kernel
theorem s1_7 : prm P1_7 (fun x => tclL 7 (stS x)) = S1_7 := by decide +kernel
theorem r1_7 : prm P1_7 (fun x => tclL 7 (stR x)) = R1_7 := by decide +kernel
theorem c1_7 : covB S1_7 R1_7 = true := by decide +kernel
theorem p1_7 : pts1 7 = P1_7 := by decide +kernel
theorem o1_7 : ones 7 = P1_7 := by decide +kernel
def P1_8 : List Q := [[0, 1], [0, 3], [1, 0], [1, 1], [1, 2], [1, 3], [1, 4], [1, 5], [1, 6], [1, 7], [2, 1], [2, 3], [2, 5], [2, 7], [3, 0], [3, 1], [3, 2], [3, 3], [3, 4], [3, 5], [3, 6], [3, 7], [4, 1], [4, 3]]
def S1_8 : List Int := [2, 14, 0, 9, 13, 21, 22, 15, 10, 3, 8, 20, 16, 4, 1, 7, 12, 19, 23, 17, 11, 5, 6, 18]
def R1_8 : List Int := [3, 17, 0, 2, 10, 16, 23, 18, 11, 4, 9, 15, 19, 5, 1, 8, 13, 14, 22, 20, 12, 6, 7, 21]
theorem nd1_8 : (decide (P1_8.Nodup) && lenB 2 P1_8) = true := by decide +kernel
theorem s1_8 : prm P1_8 (fun x => tclL 8 (stS x)) = S1_8 := by decide +kernel
theorem r1_8 : prm P1_8 (fun x => tclL 8 (stR x)) = R1_8 := by decide +kernel
theorem c1_8 : covB S1_8 R1_8 = true := by decide +kernel
theorem p1_8 : pts1 8 = P1_8 := by decide +kernel
theorem o1_8 : ones 8 = P1_8 := by decide +kernel
def P1_9 : List Q := [[0, 1], [0, 2], [0, 4], [1, 0], [1, 1], [1, 2], [1, 3], [1, 4], [1, 5], [1, 6], [1, 7], [1, 8], [2, 0], [2, 1], [2, 2], [2, 3], [2, 4], [2, 5], [2, 6], [2, 7], [2, 8], [3, 1], [3, 2], [3, 4], [3, 5], [3, 7], [3, 8], [4, 0], [4, 1], [4, 2], [4, 3], [4, 4], [4, 5], [4, 6], [4, 7], [4, 8]]
def S1_9 : List Int := [3, 12, 27, 0, 11, 20, 26, 35, 28, 21, 13, 4, 1, 10, 19, 25, 34, 29, 22, 14, 5, 9, 18, 33, 30, 15, 6, 2, 8, 17, 24, 32, 31, 23, 16, 7]
def R1_9 : List Int := [4, 14, 31, 0, 3, 13, 22, 30, 32, 23, 15, 5, 1, 11, 12, 21, 29, 33, 24, 16, 6, 10, 20, 28, 34, 17, 7, 2, 9, 19, 26, 27, 35, 25, 18, 8]
theorem nd1_9 : (decide (P1_9.Nodup) && lenB 2 P1_9) = true := by decide +kernel
theorem s1_9 : prm P1_9 (fun x => tclL 9 (stS x)) = S1_9 := by decide +kernel
theorem r1_9 : prm P1_9 (fun x => tclL 9 (stR x)) = R1_9 := by decide +kernel
theorem c1_9 : covB S1_9 R1_9 = true := by decide +kernel
theorem p1_9 : pts1 9 = P1_9 := by decide +kernel
theorem o1_9 : ones 9 = P1_9 := by decide +kernel
def P1_10 : List Q := [[0, 1], [0, 3], [1, 0], [1, 1], [1, 2], [1, 3], [1, 4], [1, 5], [1, 6], [1, 7], [1, 8], [1, 9], [2, 1], [2, 3], [2, 5], [2, 7], [2, 9], [3, 0], [3, 1], [3, 2], [3, 3], [3, 4], [3, 5], [3, 6], [3, 7], [3, 8], [3, 9], [4, 1], [4, 3], [4, 5], [4, 7], [4, 9], [5, 1], [5, 2], [5, 3], [5, 4]]
def S1_10 : List Int := [2, 17, 0, 11, 16, 26, 31, 32, 27, 18, 12, 3, 10, 25, 33, 19, 4, 1, 9, 15, 24, 30, 34, 28, 20, 13, 5, 8, 23, 35, 21, 6, 7, 14, 22, 29]
def R1_10 : List Int := [3, 20, 0, 2, 12, 19, 28, 35, 29, 21, 13, 4, 11, 18, 34, 22, 5, 1, 10, 16, 17, 27, 33, 30, 23, 14, 6, 9, 26, 32, 24, 7, 8, 15, 25, 31]
theorem nd1_10 : (decide (P1_10.Nodup) && lenB 2 P1_10) = true := by decide +kernel
theorem s1_10 : prm P1_10 (fun x => tclL 10 (stS x)) = S1_10 := by decide +kernel
theorem r1_10 : prm P1_10 (fun x => tclL 10 (stR x)) = R1_10 := by decide +kernel
theorem c1_10 : covB S1_10 R1_10 = true := by decide +kernel
theorem p1_10 : pts1 10 = P1_10 := by decide +kernel
theorem o1_10 : ones 10 = P1_10 := by decide +kernel
def P1_11 : List Q := [[0, 1], [0, 2], [0, 3], [0, 4], [0, 5], [1, 0], [1, 1], [1, 2], [1, 3], [1, 4], [1, 5], [1, 6], [1, 7], [1, 8], [1, 9], [1, 10], [2, 0], [2, 1], [2, 2], [2, 3], [2, 4], [2, 5], [2, 6], [2, 7], [2, 8], [2, 9], [2, 10], [3, 0], [3, 1], [3, 2], [3, 3], [3, 4], [3, 5], [3, 6], [3, 7], [3, 8], [3, 9], [3, 10], [4, 0], [4, 1], [4, 2], [4, 3], [4, 4], [4, 5], [4, 6], [4, 7], [4, 8], [4, 9], [4, 10], [5, 0], [5, 1], [5, 2], [5, 3], [5, 4], [5, 5], [5, 6], [5, 7], [5, 8], [5, 9], [5, 10]]
def S1_11 : List Int := [5, 16, 27, 38, 49, 0, 15, 26, 37, 48, 59, 50, 39, 28, 17, 6, 1, 14, 25, 36, 47, 58, 51, 40, 29, 18, 7, 2, 13, 24, 35, 46, 57, 52, 41, 30, 19, 8, 3, 12, 23, 34, 45, 56, 53, 42, 31, 20, 9, 4, 11, 22, 33, 44, 55, 54, 43, 32, 21, 10]
def R1_11 : List Int := [6, 18, 30, 42, 54, 0, 5, 17, 29, 41, 53, 55, 43, 31, 19, 7, 1, 15, 16, 28, 40, 52, 56, 44, 32, 20, 8, 2, 14, 26, 27, 39, 51, 57, 45, 33, 21, 9, 3, 13, 25, 37, 38, 50, 58, 46, 34, 22, 10, 4, 12, 24, 36, 48, 49, 59, 47, 35, 23, 11]
theorem nd1_11 : (decide (P1_11.Nodup) && lenB 2 P1_11) = true := by decide +kernel
theorem s1_11 : prm P1_11 (fun x => tclL 11 (stS x)) = S1_11 := by decide +kernel
theorem r1_11 : prm P1_11 (fun x => tclL 11 (stR x)) = R1_11 := by decide +kernel
theorem c1_11 : covB S1_11 R1_11 = true := by decide +kernel
theorem p1_11 : pts1 11 = P1_11 := by decide +kernel
theorem o1_11 : ones 11 = P1_11 := by decide +kernel
def P1_12 : List Q := [[0, 1], [0, 5], [1, 0], [1, 1], [1, 2], [1, 3], [1, 4], [1, 5], [1, 6], [1, 7], [1, 8], [1, 9], [1, 10], [1, 11], [2, 1], [2, 3], [2, 5], [2, 7], [2, 9], [2, 11], [3, 1], [3, 2], [3, 4], [3, 5], [3, 7], [3, 8], [3, 10], [3, 11], [4, 1], [4, 3], [4, 5], [4, 7], [4, 9], [4, 11], [5, 0], [5, 1], [5, 2], [5, 3], [5, 4], [5, 5], [5, 6], [5, 7], [5, 8], [5, 9], [5, 10], [5, 11], [6, 1], [6, 5]]
def S1_12 : List Int := [2, 34, 0, 13, 19, 27, 33, 45, 46, 35, 28, 20, 14, 3, 12, 26, 44, 36, 21, 4, 11, 18, 32, 43, 37, 29, 15, 5, 10, 25, 42, 38, 22, 6, 1, 9, 17, 24, 31, 41, 47, 39, 30, 23, 16, 7, 8, 40]
def R1_12 : List Int := [3, 39, 0, 2, 14, 21, 29, 38, 47, 40, 30, 22, 15, 4, 13, 20, 37, 41, 23, 5, 12, 19, 28, 36, 42, 31, 16, 6, 11, 27, 35, 43, 24, 7, 1, 10, 18, 26, 33, 34, 46, 44, 32, 25, 17, 8, 9, 45]
theorem nd1_12 : (decide (P1_12.Nodup) && lenB 2 P1_12) = true := by decide +kernel
theorem s1_12 : prm P1_12 (fun x => tclL 12 (stS x)) = S1_12 := by decide +kernel
theorem r1_12 : prm P1_12 (fun x => tclL 12 (stR x)) = R1_12 := by decide +kernel
theorem c1_12 : covB S1_12 R1_12 = true := by decide +kernel
theorem p1_12 : pts1 12 = P1_12 := by decide +kernel
theorem o1_12 : ones 12 = P1_12 := by decide +kernel
def P1_13 : List Q := [[0, 1], [0, 2], [0, 3], [0, 4], [0, 5], [0, 6], [1, 0], [1, 1], [1, 2], [1, 3], [1, 4], [1, 5], [1, 6], [1, 7], [1, 8], [1, 9], [1, 10], [1, 11], [1, 12], [2, 0], [2, 1], [2, 2], [2, 3], [2, 4], [2, 5], [2, 6], [2, 7], [2, 8], [2, 9], [2, 10], [2, 11], [2, 12], [3, 0], [3, 1], [3, 2], [3, 3], [3, 4], [3, 5], [3, 6], [3, 7], [3, 8], [3, 9], [3, 10], [3, 11], [3, 12], [4, 0], [4, 1], [4, 2], [4, 3], [4, 4], [4, 5], [4, 6], [4, 7], [4, 8], [4, 9], [4, 10], [4, 11], [4, 12], [5, 0], [5, 1], [5, 2], [5, 3], [5, 4], [5, 5], [5, 6], [5, 7], [5, 8], [5, 9], [5, 10], [5, 11], [5, 12], [6, 0], [6, 1], [6, 2], [6, 3], [6, 4], [6, 5], [6, 6], [6, 7], [6, 8], [6, 9], [6, 10], [6, 11], [6, 12]]
def S1_13 : List Int := [6, 19, 32, 45, 58, 71, 0, 18, 31, 44, 57, 70, 83, 72, 59, 46, 33, 20, 7, 1, 17, 30, 43, 56, 69, 82, 73, 60, 47, 34, 21, 8, 2, 16, 29, 42, 55, 68, 81, 74, 61, 48, 35, 22, 9, 3, 15, 28, 41, 54, 67, 80, 75, 62, 49, 36, 23, 10, 4, 14, 27, 40, 53, 66, 79, 76, 63, 50, 37, 24, 11, 5, 13, 26, 39, 52, 65, 78, 77, 64, 51, 38, 25, 12]
def R1_13 : List Int := [7, 21, 35, 49, 63, 77, 0, 6, 20, 34, 48, 62, 76, 78, 64, 50, 36, 22, 8, 1, 18, 19, 33, 47, 61, 75, 79, 65, 51, 37, 23, 9, 2, 17, 31, 32, 46, 60, 74, 80, 66, 52, 38, 24, 10, 3, 16, 30, 44, 45, 59, 73, 81, 67, 53, 39, 25, 11, 4, 15, 29, 43, 57, 58, 72, 82, 68, 54, 40, 26, 12, 5, 14, 28, 42, 56, 70, 71, 83, 69, 55, 41, 27, 13]
theorem nd1_13 : (decide (P1_13.Nodup) && lenB 2 P1_13) = true := by decide +kernel
theorem s1_13 : prm P1_13 (fun x => tclL 13 (stS x)) = S1_13 := by decide +kernel
theorem r1_13 : prm P1_13 (fun x => tclL 13 (stR x)) = R1_13 := by decide +kernel
theorem c1_13 : covB S1_13 R1_13 = true := by decide +kernel
theorem p1_13 : pts1 13 = P1_13 := by decide +kernel
theorem o1_13 : ones 13 = P1_13 := by decide +kernel
def P1_14 : List Q := [[0, 1], [0, 3], [0, 5], [1, 0], [1, 1], [1, 2], [1, 3], [1, 4], [1, 5], [1, 6], [1, 7], [1, 8], [1, 9], [1, 10], [1, 11], [1, 12], [1, 13], [2, 1], [2, 3], [2, 5], [2, 7], [2, 9], [2, 11], [2, 13], [3, 0], [3, 1], [3, 2], [3, 3], [3, 4], [3, 5], [3, 6], [3, 7], [3, 8], [3, 9], [3, 10], [3, 11], [3, 12], [3, 13], [4, 1], [4, 3], [4, 5], [4, 7], [4, 9], [4, 11], [4, 13], [5, 0], [5, 1], [5, 2], [5, 3], [5, 4], [5, 5], [5, 6], [5, 7], [5, 8], [5, 9], [5, 10], [5, 11], [5, 12], [5, 13], [6, 1], [6, 3], [6, 5], [6, 7], [6, 9], [6, 11], [6, 13], [7, 1], [7, 2], [7, 3], [7, 4], [7, 5], [7, 6]]
def S1_14 : List Int := [3, 24, 45, 0, 16, 23, 37, 44, 58, 65, 66, 59, 46, 38, 25, 17, 4, 15, 36, 57, 67, 47, 26, 5, 1, 14, 22, 35, 43, 56, 64, 68, 60, 48, 39, 27, 18, 6, 13, 34, 55, 69, 49, 28, 7, 2, 12, 21, 33, 42, 54, 63, 70, 61, 50, 40, 29, 19, 8, 11, 32, 53, 71, 51, 30, 9, 10, 20, 31, 41, 52, 62]
def R1_14 : List Int := [4, 27, 50, 0, 3, 17, 26, 39, 49, 61, 71, 62, 51, 40, 28, 18, 5, 16, 25, 48, 70, 52, 29, 6, 1, 15, 23, 24, 38, 47, 60, 69, 63, 53, 41, 30, 19, 7, 14, 37, 46, 68, 54, 31, 8, 2, 13, 22, 36, 44, 45, 59, 67, 64, 55, 42, 32, 20, 9, 12, 35, 58, 66, 56, 33, 10, 11, 21, 34, 43, 57, 65]
theorem nd1_14 : (decide (P1_14.Nodup) && lenB 2 P1_14) = true := by decide +kernel
theorem s1_14 : prm P1_14 (fun x => tclL 14 (stS x)) = S1_14 := by decide +kernel
theorem r1_14 : prm P1_14 (fun x => tclL 14 (stR x)) = R1_14 := by decide +kernel
theorem c1_14 : covB S1_14 R1_14 = true := by decide +kernel
theorem p1_14 : pts1 14 = P1_14 := by decide +kernel
theorem o1_14 : ones 14 = P1_14 := by decide +kernel
def P1_15 : List Q := [[0, 1], [0, 2], [0, 4], [0, 7], [1, 0], [1, 1], [1, 2], [1, 3], [1, 4], [1, 5], [1, 6], [1, 7], [1, 8], [1, 9], [1, 10], [1, 11], [1, 12], [1, 13], [1, 14], [2, 0], [2, 1], [2, 2], [2, 3], [2, 4], [2, 5], [2, 6], [2, 7], [2, 8], [2, 9], [2, 10], [2, 11], [2, 12], [2, 13], [2, 14], [3, 1], [3, 2], [3, 4], [3, 5], [3, 7], [3, 8], [3, 10], [3, 11], [3, 13], [3, 14], [4, 0], [4, 1], [4, 2], [4, 3], [4, 4], [4, 5], [4, 6], [4, 7], [4, 8], [4, 9], [4, 10], [4, 11], [4, 12], [4, 13], [4, 14], [5, 1], [5, 2], [5, 3], [5, 4], [5, 6], [5, 7], [5, 8], [5, 9], [5, 11], [5, 12], [5, 13], [5, 14], [6, 1], [6, 2], [6, 4], [6, 5], [6, 7], [6, 8], [6, 10], [6, 11], [6, 13], [6, 14], [7, 0], [7, 1], [7, 2], [7, 3], [7, 4], [7, 5], [7, 6], [7, 7], [7, 8], [7, 9], [7, 10], [7, 11], [7, 12], [7, 13], [7, 14]]
def S1_15 : List Int := [4, 19, 44, 81, 0, 18, 33, 43, 58, 70, 80, 95, 82, 71, 59, 45, 34, 20, 5, 1, 17, 32, 42, 57, 69, 79, 94, 83, 72, 60, 46, 35, 21, 6, 16, 31, 56, 68, 93, 84, 61, 47, 22, 7, 2, 15, 30, 41, 55, 67, 78, 92, 85, 73, 62, 48, 36, 23, 8, 14, 29, 40, 54, 77, 91, 86, 74, 49, 37, 24, 9, 13, 28, 53, 66, 90, 87, 63, 50, 25, 10, 3, 12, 27, 39, 52, 65, 76, 89, 88, 75, 64, 51, 38, 26, 11]
def R1_15 : List Int := [5, 21, 48, 88, 0, 4, 20, 35, 47, 62, 74, 87, 89, 75, 63, 49, 36, 22, 6, 1, 18, 19, 34, 46, 61, 73, 86, 90, 76, 64, 50, 37, 23, 7, 17, 33, 45, 60, 85, 91, 65, 51, 24, 8, 2, 16, 32, 43, 44, 59, 72, 84, 92, 77, 66, 52, 38, 25, 9, 15, 31, 42, 58, 71, 83, 93, 78, 53, 39, 26, 10, 14, 30, 57, 70, 82, 94, 67, 54, 27, 11, 3, 13, 29, 41, 56, 69, 80, 81, 95, 79, 68, 55, 40, 28, 12]
theorem nd1_15 : (decide (P1_15.Nodup) && lenB 2 P1_15) = true := by decide +kernel
theorem s1_15 : prm P1_15 (fun x => tclL 15 (stS x)) = S1_15 := by decide +kernel
theorem r1_15 : prm P1_15 (fun x => tclL 15 (stR x)) = R1_15 := by decide +kernel
theorem c1_15 : covB S1_15 R1_15 = true := by decide +kernel
theorem p1_15 : pts1 15 = P1_15 := by decide +kernel
theorem o1_15 : ones 15 = P1_15 := by decide +kernel
def P1_16 : List Q := [[0, 1], [0, 3], [0, 5], [0, 7], [1, 0], [1, 1], [1, 2], [1, 3], [1, 4], [1, 5], [1, 6], [1, 7], [1, 8], [1, 9], [1, 10], [1, 11], [1, 12], [1, 13], [1, 14], [1, 15], [2, 1], [2, 3], [2, 5], [2, 7], [2, 9], [2, 11], [2, 13], [2, 15], [3, 0], [3, 1], [3, 2], [3, 3], [3, 4], [3, 5], [3, 6], [3, 7], [3, 8], [3, 9], [3, 10], [3, 11], [3, 12], [3, 13], [3, 14], [3, 15], [4, 1], [4, 3], [4, 5], [4, 7], [4, 9], [4, 11], [4, 13], [4, 15], [5, 0], [5, 1], [5, 2], [5, 3], [5, 4], [5, 5], [5, 6], [5, 7], [5, 8], [5, 9], [5, 10], [5, 11], [5, 12], [5, 13], [5, 14], [5, 15], [6, 1], [6, 3], [6, 5], [6, 7], [6, 9], [6, 11], [6, 13], [6, 15], [7, 0], [7, 1], [7, 2], [7, 3], [7, 4], [7, 5], [7, 6], [7, 7], [7, 8], [7, 9], [7, 10], [7, 11], [7, 12], [7, 13], [7, 14], [7, 15], [8, 1], [8, 3], [8, 5], [8, 7]]
def S1_16 : List Int := [4, 28, 52, 76, 0, 19, 27, 43, 51, 67, 75, 91, 92, 77, 68, 53, 44, 29, 20, 5, 18, 42, 66, 90, 78, 54, 30, 6, 1, 17, 26, 41, 50, 65, 74, 89, 93, 79, 69, 55, 45, 31, 21, 7, 16, 40, 64, 88, 80, 56, 32, 8, 2, 15, 25, 39, 49, 63, 73, 87, 94, 81, 70, 57, 46, 33, 22, 9, 14, 38, 62, 86, 82, 58, 34, 10, 3, 13, 24, 37, 48, 61, 72, 85, 95, 83, 71, 59, 47, 35, 23, 11, 12, 36, 60, 84]
def R1_16 : List Int := [5, 31, 57, 83, 0, 4, 20, 30, 45, 56, 70, 82, 95, 84, 71, 58, 46, 32, 21, 6, 19, 29, 55, 81, 85, 59, 33, 7, 1, 18, 27, 28, 44, 54, 69, 80, 94, 86, 72, 60, 47, 34, 22, 8, 17, 43, 53, 79, 87, 61, 35, 9, 2, 16, 26, 42, 51, 52, 68, 78, 93, 88, 73, 62, 48, 36, 23, 10, 15, 41, 67, 77, 89, 63, 37, 11, 3, 14, 25, 40, 50, 66, 75, 76, 92, 90, 74, 64, 49, 38, 24, 12, 13, 39, 65, 91]
theorem nd1_16 : (decide (P1_16.Nodup) && lenB 2 P1_16) = true := by decide +kernel
theorem s1_16 : prm P1_16 (fun x => tclL 16 (stS x)) = S1_16 := by decide +kernel
theorem r1_16 : prm P1_16 (fun x => tclL 16 (stR x)) = R1_16 := by decide +kernel
theorem c1_16 : covB S1_16 R1_16 = true := by decide +kernel
theorem p1_16 : pts1 16 = P1_16 := by decide +kernel
theorem o1_16 : ones 16 = P1_16 := by decide +kernel
def P1_17 : List Q := [[0, 1], [0, 2], [0, 3], [0, 4], [0, 5], [0, 6], [0, 7], [0, 8], [1, 0], [1, 1], [1, 2], [1, 3], [1, 4], [1, 5], [1, 6], [1, 7], [1, 8], [1, 9], [1, 10], [1, 11], [1, 12], [1, 13], [1, 14], [1, 15], [1, 16], [2, 0], [2, 1], [2, 2], [2, 3], [2, 4], [2, 5], [2, 6], [2, 7], [2, 8], [2, 9], [2, 10], [2, 11], [2, 12], [2, 13], [2, 14], [2, 15], [2, 16], [3, 0], [3, 1], [3, 2], [3, 3], [3, 4], [3, 5], [3, 6], [3, 7], [3, 8], [3, 9], [3, 10], [3, 11], [3, 12], [3, 13], [3, 14], [3, 15], [3, 16], [4, 0], [4, 1], [4, 2], [4, 3], [4, 4], [4, 5], [4, 6], [4, 7], [4, 8], [4, 9], [4, 10], [4, 11], [4, 12], [4, 13], [4, 14], [4, 15], [4, 16], [5, 0], [5, 1], [5, 2], [5, 3], [5, 4], [5, 5], [5, 6], [5, 7], [5, 8], [5, 9], [5, 10], [5, 11], [5, 12], [5, 13], [5, 14], [5, 15], [5, 16], [6, 0], [6, 1], [6, 2], [6, 3], [6, 4], [6, 5], [6, 6], [6, 7], [6, 8], [6, 9], [6, 10], [6, 11], [6, 12], [6, 13], [6, 14], [6, 15], [6, 16], [7, 0], [7, 1], [7, 2], [7, 3], [7, 4], [7, 5], [7, 6], [7, 7], [7, 8], [7, 9], [7, 10], [7, 11], [7, 12], [7, 13], [7, 14], [7, 15], [7, 16], [8, 0], [8, 1], [8, 2], [8, 3], [8, 4], [8, 5], [8, 6], [8, 7], [8, 8], [8, 9], [8, 10], [8, 11], [8, 12], [8, 13], [8, 14], [8, 15], [8, 16]]
def S1_17 : List Int := [8, 25, 42, 59, 76, 93, 110, 127, 0, 24, 41, 58, 75, 92, 109, 126, 143, 128, 111, 94, 77, 60, 43, 26, 9, 1, 23, 40, 57, 74, 91, 108, 125, 142, 129, 112, 95, 78, 61, 44, 27, 10, 2, 22, 39, 56, 73, 90, 107, 124, 141, 130, 113, 96, 79, 62, 45, 28, 11, 3, 21, 38, 55, 72, 89, 106, 123, 140, 131, 114, 97, 80, 63, 46, 29, 12, 4, 20, 37, 54, 71, 88, 105, 122, 139, 132, 115, 98, 81, 64, 47, 30, 13, 5, 19, 36, 53, 70, 87, 104, 121, 138, 133, 116, 99, 82, 65, 48, 31, 14, 6, 18, 35, 52, 69, 86, 103, 120, 137, 134, 117, 100, 83, 66, 49, 32, 15, 7, 17, 34, 51, 68, 85, 102, 119, 136, 135, 118, 101, 84, 67, 50, 33, 16]
def R1_17 : List Int := [9, 27, 45, 63, 81, 99, 117, 135, 0, 8, 26, 44, 62, 80, 98, 116, 134, 136, 118, 100, 82, 64, 46, 28, 10, 1, 24, 25, 43, 61, 79, 97, 115, 133, 137, 119, 101, 83, 65, 47, 29, 11, 2, 23, 41, 42, 60, 78, 96, 114, 132, 138, 120, 102, 84, 66, 48, 30, 12, 3, 22, 40, 58, 59, 77, 95, 113, 131, 139, 121, 103, 85, 67, 49, 31, 13, 4, 21, 39, 57, 75, 76, 94, 112, 130, 140, 122, 104, 86, 68, 50, 32, 14, 5, 20, 38, 56, 74, 92, 93, 111, 129, 141, 123, 105, 87, 69, 51, 33, 15, 6, 19, 37, 55, 73, 91, 109, 110, 128, 142, 124, 106, 88, 70, 52, 34, 16, 7, 18, 36, 54, 72, 90, 108, 126, 127, 143, 125, 107, 89, 71, 53, 35, 17]
theorem nd1_17 : (decide (P1_17.Nodup) && lenB 2 P1_17) = true := by decide +kernel
theorem s1_17 : prm P1_17 (fun x => tclL 17 (stS x)) = S1_17 := by decide +kernel
theorem r1_17 : prm P1_17 (fun x => tclL 17 (stR x)) = R1_17 := by decide +kernel
theorem c1_17 : covB S1_17 R1_17 = true := by decide +kernel
theorem p1_17 : pts1 17 = P1_17 := by decide +kernel
theorem o1_17 : ones 17 = P1_17 := by decide +kernel
def P1_18 : List Q := [[0, 1], [0, 5], [0, 7], [1, 0], [1, 1], [1, 2], [1, 3], [1, 4], [1, 5], [1, 6], [1, 7], [1, 8], [1, 9], [1, 10], [1, 11], [1, 12], [1, 13], [1, 14], [1, 15], [1, 16], [1, 17], [2, 1], [2, 3], [2, 5], [2, 7], [2, 9], [2, 11], [2, 13], [2, 15], [2, 17], [3, 1], [3, 2], [3, 4], [3, 5], [3, 7], [3, 8], [3, 10], [3, 11], [3, 13], [3, 14], [3, 16], [3, 17], [4, 1], [4, 3], [4, 5], [4, 7], [4, 9], [4, 11], [4, 13], [4, 15], [4, 17], [5, 0], [5, 1], [5, 2], [5, 3], [5, 4], [5, 5], [5, 6], [5, 7], [5, 8], [5, 9], [5, 10], [5, 11], [5, 12], [5, 13], [5, 14], [5, 15], [5, 16], [5, 17], [6, 1], [6, 5], [6, 7], [6, 11], [6, 13], [6, 17], [7, 0], [7, 1], [7, 2], [7, 3], [7, 4], [7, 5], [7, 6], [7, 7], [7, 8], [7, 9], [7, 10], [7, 11], [7, 12], [7, 13], [7, 14], [7, 15], [7, 16], [7, 17], [8, 1], [8, 3], [8, 5], [8, 7], [8, 9], [8, 11], [8, 13], [8, 15], [8, 17], [9, 1], [9, 2], [9, 4], [9, 5], [9, 7], [9, 8]]
def S1_18 : List Int := [3, 51, 75, 0, 20, 29, 41, 50, 68, 74, 92, 101, 102, 93, 76, 69, 52, 42, 30, 21, 4, 19, 40, 67, 91, 103, 77, 53, 31, 5, 18, 28, 49, 66, 90, 100, 94, 78, 54, 43, 22, 6, 17, 39, 65, 89, 104, 79, 55, 32, 7, 1, 16, 27, 38, 48, 64, 73, 88, 99, 105, 95, 80, 70, 56, 44, 33, 23, 8, 15, 63, 87, 81, 57, 9, 2, 14, 26, 37, 47, 62, 72, 86, 98, 106, 96, 82, 71, 58, 45, 34, 24, 10, 13, 36, 61, 85, 107, 83, 59, 35, 11, 12, 25, 46, 60, 84, 97]
def R1_18 : List Int := [4, 56, 82, 0, 3, 21, 31, 43, 55, 70, 81, 96, 107, 97, 83, 71, 57, 44, 32, 22, 5, 20, 30, 54, 80, 106, 84, 58, 33, 6, 19, 29, 42, 53, 79, 95, 98, 85, 59, 45, 23, 7, 18, 41, 52, 78, 105, 86, 60, 34, 8, 1, 17, 28, 40, 50, 51, 69, 77, 94, 104, 99, 87, 72, 61, 46, 35, 24, 9, 16, 68, 76, 88, 62, 10, 2, 15, 27, 39, 49, 67, 74, 75, 93, 103, 100, 89, 73, 63, 47, 36, 25, 11, 14, 38, 66, 92, 102, 90, 64, 37, 12, 13, 26, 48, 65, 91, 101]
theorem nd1_18 : (decide (P1_18.Nodup) && lenB 2 P1_18) = true := by decide +kernel
theorem s1_18 : prm P1_18 (fun x => tclL 18 (stS x)) = S1_18 := by decide +kernel
theorem r1_18 : prm P1_18 (fun x => tclL 18 (stR x)) = R1_18 := by decide +kernel
theorem c1_18 : covB S1_18 R1_18 = true := by decide +kernel
theorem p1_18 : pts1 18 = P1_18 := by decide +kernel
theorem o1_18 : ones 18 = P1_18 := by decide +kernel
def P1_19 : List Q := [[0, 1], [0, 2], [0, 3], [0, 4], [0, 5], [0, 6], [0, 7], [0, 8], [0, 9], [1, 0], [1, 1], [1, 2], [1, 3], [1, 4], [1, 5], [1, 6], [1, 7], [1, 8], [1, 9], [1, 10], [1, 11], [1, 12], [1, 13], [1, 14], [1, 15], [1, 16], [1, 17], [1, 18], [2, 0], [2, 1], [2, 2], [2, 3], [2, 4], [2, 5], [2, 6], [2, 7], [2, 8], [2, 9], [2, 10], [2, 11], [2, 12], [2, 13], [2, 14], [2, 15], [2, 16], [2, 17], [2, 18], [3, 0], [3, 1], [3, 2], [3, 3], [3, 4], [3, 5], [3, 6], [3, 7], [3, 8], [3, 9], [3, 10], [3, 11], [3, 12], [3, 13], [3, 14], [3, 15], [3, 16], [3, 17], [3, 18], [4, 0], [4, 1], [4, 2], [4, 3], [4, 4], [4, 5], [4, 6], [4, 7], [4, 8], [4, 9], [4, 10], [4, 11], [4, 12], [4, 13], [4, 14], [4, 15], [4, 16], [4, 17], [4, 18], [5, 0], [5, 1], [5, 2], [5, 3], [5, 4], [5, 5], [5, 6], [5, 7], [5, 8], [5, 9], [5, 10], [5, 11], [5, 12], [5, 13], [5, 14], [5, 15], [5, 16], [5, 17], [5, 18], [6, 0], [6, 1], [6, 2], [6, 3], [6, 4], [6, 5], [6, 6], [6, 7], [6, 8], [6, 9], [6, 10], [6, 11], [6, 12], [6, 13], [6, 14], [6, 15], [6, 16], [6, 17], [6, 18], [7, 0], [7, 1], [7, 2], [7, 3], [7, 4], [7, 5], [7, 6], [7, 7], [7, 8], [7, 9], [7, 10], [7, 11], [7, 12], [7, 13], [7, 14], [7, 15], [7, 16], [7, 17], [7, 18], [8, 0], [8, 1], [8, 2], [8, 3], [8, 4], [8, 5], [8, 6], [8, 7], [8, 8], [8, 9], [8, 10], [8, 11], [8, 12], [8, 13], [8, 14], [8, 15], [8, 16], [8, 17], [8, 18], [9, 0], [9, 1], [9, 2], [9, 3], [9, 4], [9, 5], [9, 6], [9, 7], [9, 8], [9, 9], [9, 10], [9, 11], [9, 12], [9, 13], [9, 14], [9, 15], [9, 16], [9, 17], [9, 18]]
def S1_19 : List Int := [9, 28, 47, 66, 85, 104, 123, 142, 161, 0, 27, 46, 65, 84, 103, 122, 141, 160, 179, 162, 143, 124, 105, 86, 67, 48, 29, 10, 1, 26, 45, 64, 83, 102, 121, 140, 159, 178, 163, 144, 125, 106, 87, 68, 49, 30, 11, 2, 25, 44, 63, 82, 101, 120, 139, 158, 177, 164, 145, 126, 107, 88, 69, 50, 31, 12, 3, 24, 43, 62, 81, 100, 119, 138, 157, 176, 165, 146, 127, 108, 89, 70, 51, 32, 13, 4, 23, 42, 61, 80, 99, 118, 137, 156, 175, 166, 147, 128, 109, 90, 71, 52, 33, 14, 5, 22, 41, 60, 79, 98, 117, 136, 155, 174, 167, 148, 129, 110, 91, 72, 53, 34, 15, 6, 21, 40, 59, 78, 97, 116, 135, 154, 173, 168, 149, 130, 111, 92, 73, 54, 35, 16, 7, 20, 39, 58, 77, 96, 115, 134, 153, 172, 169, 150, 131, 112, 93, 74, 55, 36, 17, 8, 19, 38, 57, 76, 95, 114, 133, 152, 171, 170, 151, 132, 113, 94, 75, 56, 37, 18]
def R1_19 : List Int := [10, 30, 50, 70, 90, 110, 130, 150, 170, 0, 9, 29, 49, 69, 89, 109, 129, 149, 169, 171, 151, 131, 111, 91, 71, 51, 31, 11, 1, 27, 28, 48, 68, 88, 108, 128, 148, 168, 172, 152, 132, 112, 92, 72, 52, 32, 12, 2, 26, 46, 47, 67, 87, 107, 127, 147, 167, 173, 153, 133, 113, 93, 73, 53, 33, 13, 3, 25, 45, 65, 66, 86, 106, 126, 146, 166, 174, 154, 134, 114, 94, 74, 54, 34, 14, 4, 24, 44, 64, 84, 85, 105, 125, 145, 165, 175, 155, 135, 115, 95, 75, 55, 35, 15, 5, 23, 43, 63, 83, 103, 104, 124, 144, 164, 176, 156, 136, 116, 96, 76, 56, 36, 16, 6, 22, 42, 62, 82, 102, 122, 123, 143, 163, 177, 157, 137, 117, 97, 77, 57, 37, 17, 7, 21, 41, 61, 81, 101, 121, 141, 142, 162, 178, 158, 138, 118, 98, 78, 58, 38, 18, 8, 20, 40, 60, 80, 100, 120, 140, 160, 161, 179, 159, 139, 119, 99, 79, 59, 39, 19]
theorem nd1_19 : (decide (P1_19.Nodup) && lenB 2 P1_19) = true := by decide +kernel
theorem s1_19 : prm P1_19 (fun x => tclL 19 (stS x)) = S1_19 := by decide +kernel
theorem r1_19 : prm P1_19 (fun x => tclL 19 (stR x)) = R1_19 := by decide +kernel
theorem c1_19 : covB S1_19 R1_19 = true := by decide +kernel
theorem p1_19 : pts1 19 = P1_19 := by decide +kernel
theorem o1_19 : ones 19 = P1_19 := by decide +kernel
def P1_20 : List Q := [[0, 1], [0, 3], [0, 7], [0, 9], [1, 0], [1, 1], [1, 2], [1, 3], [1, 4], [1, 5], [1, 6], [1, 7], [1, 8], [1, 9], [1, 10], [1, 11], [1, 12], [1, 13], [1, 14], [1, 15], [1, 16], [1, 17], [1, 18], [1, 19], [2, 1], [2, 3], [2, 5], [2, 7], [2, 9], [2, 11], [2, 13], [2, 15], [2, 17], [2, 19], [3, 0], [3, 1], [3, 2], [3, 3], [3, 4], [3, 5], [3, 6], [3, 7], [3, 8], [3, 9], [3, 10], [3, 11], [3, 12], [3, 13], [3, 14], [3, 15], [3, 16], [3, 17], [3, 18], [3, 19], [4, 1], [4, 3], [4, 5], [4, 7], [4, 9], [4, 11], [4, 13], [4, 15], [4, 17], [4, 19], [5, 1], [5, 2], [5, 3], [5, 4], [5, 6], [5, 7], [5, 8], [5, 9], [5, 11], [5, 12], [5, 13], [5, 14], [5, 16], [5, 17], [5, 18], [5, 19], [6, 1], [6, 3], [6, 5], [6, 7], [6, 9], [6, 11], [6, 13], [6, 15], [6, 17], [6, 19], [7, 0], [7, 1], [7, 2], [7, 3], [7, 4], [7, 5], [7, 6], [7, 7], [7, 8], [7, 9], [7, 10], [7, 11], [7, 12], [7, 13], [7, 14], [7, 15], [7, 16], [7, 17], [7, 18], [7, 19], [8, 1], [8, 3], [8, 5], [8, 7], [8, 9], [8, 11], [8, 13], [8, 15], [8, 17], [8, 19], [9, 0], [9, 1], [9, 2], [9, 3], [9, 4], [9, 5], [9, 6], [9, 7], [9, 8], [9, 9], [9, 10], [9, 11], [9, 12], [9, 13], [9, 14], [9, 15], [9, 16], [9, 17], [9, 18], [9, 19], [10, 1], [10, 3], [10, 7], [10, 9]]
def S1_20 : List Int := [4, 34, 90, 120, 0, 23, 33, 53, 63, 79, 89, 109, 119, 139, 140, 121, 110, 91, 80, 64, 54, 35, 24, 5, 22, 52, 78, 108, 138, 122, 92, 65, 36, 6, 1, 21, 32, 51, 62, 77, 88, 107, 118, 137, 141, 123, 111, 93, 81, 66, 55, 37, 25, 7, 20, 50, 76, 106, 136, 124, 94, 67, 38, 8, 19, 31, 49, 61, 87, 105, 117, 135, 125, 112, 95, 82, 56, 39, 26, 9, 18, 48, 75, 104, 134, 126, 96, 68, 40, 10, 2, 17, 30, 47, 60, 74, 86, 103, 116, 133, 142, 127, 113, 97, 83, 69, 57, 41, 27, 11, 16, 46, 73, 102, 132, 128, 98, 70, 42, 12, 3, 15, 29, 45, 59, 72, 85, 101, 115, 131, 143, 129, 114, 99, 84, 71, 58, 43, 28, 13, 14, 44, 100, 130]
def R1_20 : List Int := [5, 37, 97, 129, 0, 4, 24, 36, 55, 67, 82, 96, 113, 128, 143, 130, 114, 98, 83, 68, 56, 38, 25, 6, 23, 35, 66, 95, 127, 131, 99, 69, 39, 7, 1, 22, 33, 34, 54, 65, 81, 94, 112, 126, 142, 132, 115, 100, 84, 70, 57, 40, 26, 8, 21, 53, 64, 93, 125, 133, 101, 71, 41, 9, 20, 32, 52, 63, 80, 92, 111, 124, 134, 116, 102, 85, 58, 42, 27, 10, 19, 51, 79, 91, 123, 135, 103, 72, 43, 11, 2, 18, 31, 50, 62, 78, 89, 90, 110, 122, 141, 136, 117, 104, 86, 73, 59, 44, 28, 12, 17, 49, 77, 109, 121, 137, 105, 74, 45, 13, 3, 16, 30, 48, 61, 76, 88, 108, 119, 120, 140, 138, 118, 106, 87, 75, 60, 46, 29, 14, 15, 47, 107, 139]
theorem nd1_20 : (decide (P1_20.Nodup) && lenB 2 P1_20) = true := by decide +kernel
theorem s1_20 : prm P1_20 (fun x => tclL 20 (stS x)) = S1_20 := by decide +kernel
theorem r1_20 : prm P1_20 (fun x => tclL 20 (stR x)) = R1_20 := by decide +kernel
theorem c1_20 : covB S1_20 R1_20 = true := by decide +kernel
theorem p1_20 : pts1 20 = P1_20 := by decide +kernel
theorem o1_20 : ones 20 = P1_20 := by decide +kernel
def P1_21 : List Q := [[0, 1], [0, 2], [0, 4], [0, 5], [0, 8], [0, 10], [1, 0], [1, 1], [1, 2], [1, 3], [1, 4], [1, 5], [1, 6], [1, 7], [1, 8], [1, 9], [1, 10], [1, 11], [1, 12], [1, 13], [1, 14], [1, 15], [1, 16], [1, 17], [1, 18], [1, 19], [1, 20], [2, 0], [2, 1], [2, 2], [2, 3], [2, 4], [2, 5], [2, 6], [2, 7], [2, 8], [2, 9], [2, 10], [2, 11], [2, 12], [2, 13], [2, 14], [2, 15], [2, 16], [2, 17], [2, 18], [2, 19], [2, 20], [3, 1], [3, 2], [3, 4], [3, 5], [3, 7], [3, 8], [3, 10], [3, 11], [3, 13], [3, 14], [3, 16], [3, 17], [3, 19], [3, 20], [4, 0], [4, 1], [4, 2], [4, 3], [4, 4], [4, 5], [4, 6], [4, 7], [4, 8], [4, 9], [4, 10], [4, 11], [4, 12], [4, 13], [4, 14], [4, 15], [4, 16], [4, 17], [4, 18], [4, 19], [4, 20], [5, 0], [5, 1], [5, 2], [5, 3], [5, 4], [5, 5], [5, 6], [5, 7], [5, 8], [5, 9], [5, 10], [5, 11], [5, 12], [5, 13], [5, 14], [5, 15], [5, 16], [5, 17], [5, 18], [5, 19], [5, 20], [6, 1], [6, 2], [6, 4], [6, 5], [6, 7], [6, 8], [6, 10], [6, 11], [6, 13], [6, 14], [6, 16], [6, 17], [6, 19], [6, 20], [7, 1], [7, 2], [7, 3], [7, 4], [7, 5], [7, 6], [7, 8], [7, 9], [7, 10], [7, 11], [7, 12], [7, 13], [7, 15], [7, 16], [7, 17], [7, 18], [7, 19], [7, 20], [8, 0], [8, 1], [8, 2], [8, 3], [8, 4], [8, 5], [8, 6], [8, 7], [8, 8], [8, 9], [8, 10], [8, 11], [8, 12], [8, 13], [8, 14], [8, 15], [8, 16], [8, 17], [8, 18], [8, 19], [8, 20], [9, 1], [9, 2], [9, 4], [9, 5], [9, 7], [9, 8], [9, 10], [9, 11], [9, 13], [9, 14], [9, 16], [9, 17], [9, 19], [9, 20], [10, 0], [10, 1], [10, 2], [10, 3], [10, 4], [10, 5], [10, 6], [10, 7], [10, 8], [10, 9], [10, 10], [10, 11], [10, 12], [10, 13], [10, 14], [10, 15], [10, 16], [10, 17], [10, 18], [10, 19], [10, 20]]
def S1_21 : List Int := [6, 27, 62, 83, 136, 171, 0, 26, 47, 61, 82, 103, 117, 135, 156, 170, 191, 172, 157, 137, 118, 104, 84, 63, 48, 28, 7, 1, 25, 46, 60, 81, 102, 116, 134, 155, 169, 190, 173, 158, 138, 119, 105, 85, 64, 49, 29, 8, 24, 45, 80, 101, 133, 154, 189, 174, 139, 120, 86, 65, 30, 9, 2, 23, 44, 59, 79, 100, 115, 132, 153, 168, 188, 175, 159, 140, 121, 106, 87, 66, 50, 31, 10, 3, 22, 43, 58, 78, 99, 114, 131, 152, 167, 187, 176, 160, 141, 122, 107, 88, 67, 51, 32, 11, 21, 42, 77, 98, 130, 151, 186, 177, 142, 123, 89, 68, 33, 12, 20, 41, 57, 76, 97, 113, 150, 166, 185, 178, 161, 143, 108, 90, 69, 52, 34, 13, 4, 19, 40, 56, 75, 96, 112, 129, 149, 165, 184, 179, 162, 144, 124, 109, 91, 70, 53, 35, 14, 18, 39, 74, 95, 128, 148, 183, 180, 145, 125, 92, 71, 36, 15, 5, 17, 38, 55, 73, 94, 111, 127, 147, 164, 182, 181, 163, 146, 126, 110, 93, 72, 54, 37, 16]
def R1_21 : List Int := [7, 29, 66, 88, 144, 181, 0, 6, 28, 49, 65, 87, 107, 123, 143, 162, 180, 182, 163, 145, 124, 108, 89, 67, 50, 30, 8, 1, 26, 27, 48, 64, 86, 106, 122, 142, 161, 179, 183, 164, 146, 125, 109, 90, 68, 51, 31, 9, 25, 47, 63, 85, 121, 141, 178, 184, 147, 126, 91, 69, 32, 10, 2, 24, 46, 61, 62, 84, 105, 120, 140, 160, 177, 185, 165, 148, 127, 110, 92, 70, 52, 33, 11, 3, 23, 45, 60, 82, 83, 104, 119, 139, 159, 176, 186, 166, 149, 128, 111, 93, 71, 53, 34, 12, 22, 44, 81, 103, 118, 138, 175, 187, 150, 129, 94, 72, 35, 13, 21, 43, 59, 80, 102, 117, 137, 158, 174, 188, 167, 151, 112, 95, 73, 54, 36, 14, 4, 20, 42, 58, 79, 101, 116, 135, 136, 157, 173, 189, 168, 152, 130, 113, 96, 74, 55, 37, 15, 19, 41, 78, 100, 134, 156, 172, 190, 153, 131, 97, 75, 38, 16, 5, 18, 40, 57, 77, 99, 115, 133, 155, 170, 171, 191, 169, 154, 132, 114, 98, 76, 56, 39, 17]
theorem nd1_21 : (decide (P1_21.Nodup) && lenB 2 P1_21) = true := by decide +kernel
theorem s1_21 : prm P1_21 (fun x => tclL 21 (stS x)) = S1_21 := by decide +kernel
theorem r1_21 : prm P1_21 (fun x => tclL 21 (stR x)) = R1_21 := by decide +kernel
theorem c1_21 : covB S1_21 R1_21 = true := by decide +kernel
theorem p1_21 : pts1 21 = P1_21 := by decide +kernel
theorem o1_21 : ones 21 = P1_21 := by decide +kernel
def P1_22 : List Q := [[0, 1], [0, 3], [0, 5], [0, 7], [0, 9], [1, 0], [1, 1], [1, 2], [1, 3], [1, 4], [1, 5], [1, 6], [1, 7], [1, 8], [1, 9], [1, 10], [1, 11], [1, 12], [1, 13], [1, 14], [1, 15], [1, 16], [1, 17], [1, 18], [1, 19], [1, 20], [1, 21], [2, 1], [2, 3], [2, 5], [2, 7], [2, 9], [2, 11], [2, 13], [2, 15], [2, 17], [2, 19], [2, 21], [3, 0], [3, 1], [3, 2], [3, 3], [3, 4], [3, 5], [3, 6], [3, 7], [3, 8], [3, 9], [3, 10], [3, 11], [3, 12], [3, 13], [3, 14], [3, 15], [3, 16], [3, 17], [3, 18], [3, 19], [3, 20], [3, 21], [4, 1], [4, 3], [4, 5], [4, 7], [4, 9], [4, 11], [4, 13], [4, 15], [4, 17], [4, 19], [4, 21], [5, 0], [5, 1], [5, 2], [5, 3], [5, 4], [5, 5], [5, 6], [5, 7], [5, 8], [5, 9], [5, 10], [5, 11], [5, 12], [5, 13], [5, 14], [5, 15], [5, 16], [5, 17], [5, 18], [5, 19], [5, 20], [5, 21], [6, 1], [6, 3], [6, 5], [6, 7], [6, 9], [6, 11], [6, 13], [6, 15], [6, 17], [6, 19], [6, 21], [7, 0], [7, 1], [7, 2], [7, 3], [7, 4], [7, 5], [7, 6], [7, 7], [7, 8], [7, 9], [7, 10], [7, 11], [7, 12], [7, 13], [7, 14], [7, 15], [7, 16], [7, 17], [7, 18], [7, 19], [7, 20], [7, 21], [8, 1], [8, 3], [8, 5], [8, 7], [8, 9], [8, 11], [8, 13], [8, 15], [8, 17], [8, 19], [8, 21], [9, 0], [9, 1], [9, 2], [9, 3], [9, 4], [9, 5], [9, 6], [9, 7], [9, 8], [9, 9], [9, 10], [9, 11], [9, 12], [9, 13], [9, 14], [9, 15], [9, 16], [9, 17], [9, 18], [9, 19], [9, 20], [9, 21], [10, 1], [10, 3], [10, 5], [10, 7], [10, 9], [10, 11], [10, 13], [10, 15], [10, 17], [10, 19], [10, 21], [11, 1], [11, 2], [11, 3], [11, 4], [11, 5], [11, 6], [11, 7], [11, 8], [11, 9], [11, 10]]
def S1_22 : List Int := [5, 38, 71, 104, 137, 0, 26, 37, 59, 70, 92, 103, 125, 136, 158, 169, 170, 159, 138, 126, 105, 93, 72, 60, 39, 27, 6, 25, 58, 91, 124, 157, 171, 139, 106, 73, 40, 7, 1, 24, 36, 57, 69, 90, 102, 123, 135, 156, 168, 172, 160, 140, 127, 107, 94, 74, 61, 41, 28, 8, 23, 56, 89, 122, 155, 173, 141, 108, 75, 42, 9, 2, 22, 35, 55, 68, 88, 101, 121, 134, 154, 167, 174, 161, 142, 128, 109, 95, 76, 62, 43, 29, 10, 21, 54, 87, 120, 153, 175, 143, 110, 77, 44, 11, 3, 20, 34, 53, 67, 86, 100, 119, 133, 152, 166, 176, 162, 144, 129, 111, 96, 78, 63, 45, 30, 12, 19, 52, 85, 118, 151, 177, 145, 112, 79, 46, 13, 4, 18, 33, 51, 66, 84, 99, 117, 132, 150, 165, 178, 163, 146, 130, 113, 97, 80, 64, 47, 31, 14, 17, 50, 83, 116, 149, 179, 147, 114, 81, 48, 15, 16, 32, 49, 65, 82, 98, 115, 131, 148, 164]
def R1_22 : List Int := [6, 41, 76, 111, 146, 0, 5, 27, 40, 61, 75, 95, 110, 129, 145, 163, 179, 164, 147, 130, 112, 96, 77, 62, 42, 28, 7, 26, 39, 74, 109, 144, 178, 148, 113, 78, 43, 8, 1, 25, 37, 38, 60, 73, 94, 108, 128, 143, 162, 177, 165, 149, 131, 114, 97, 79, 63, 44, 29, 9, 24, 59, 72, 107, 142, 176, 150, 115, 80, 45, 10, 2, 23, 36, 58, 70, 71, 93, 106, 127, 141, 161, 175, 166, 151, 132, 116, 98, 81, 64, 46, 30, 11, 22, 57, 92, 105, 140, 174, 152, 117, 82, 47, 12, 3, 21, 35, 56, 69, 91, 103, 104, 126, 139, 160, 173, 167, 153, 133, 118, 99, 83, 65, 48, 31, 13, 20, 55, 90, 125, 138, 172, 154, 119, 84, 49, 14, 4, 19, 34, 54, 68, 89, 102, 124, 136, 137, 159, 171, 168, 155, 134, 120, 100, 85, 66, 50, 32, 15, 18, 53, 88, 123, 158, 170, 156, 121, 86, 51, 16, 17, 33, 52, 67, 87, 101, 122, 135, 157, 169]
theorem nd1_22 : (decide (P1_22.Nodup) && lenB 2 P1_22) = true := by decide +kernel
theorem s1_22 : prm P1_22 (fun x => tclL 22 (stS x)) = S1_22 := by decide +kernel
theorem r1_22 : prm P1_22 (fun x => tclL 22 (stR x)) = R1_22 := by decide +kernel
theorem c1_22 : covB S1_22 R1_22 = true := by decide +kernel
theorem p1_22 : pts1 22 = P1_22 := by decide +kernel
theorem o1_22 : ones 22 = P1_22 := by decide +kernel
def P1_24 : List Q := [[0, 1], [0, 5], [0, 7], [0, 11], [1, 0], [1, 1], [1, 2], [1, 3], [1, 4], [1, 5], [1, 6], [1, 7], [1, 8], [1, 9], [1, 10], [1, 11], [1, 12], [1, 13], [1, 14], [1, 15], [1, 16], [1, 17], [1, 18], [1, 19], [1, 20], [1, 21], [1, 22], [1, 23], [2, 1], [2, 3], [2, 5], [2, 7], [2, 9], [2, 11], [2, 13], [2, 15], [2, 17], [2, 19], [2, 21], [2, 23], [3, 1], [3, 2], [3, 4], [3, 5], [3, 7], [3, 8], [3, 10], [3, 11], [3, 13], [3, 14], [3, 16], [3, 17], [3, 19], [3, 20], [3, 22], [3, 23], [4, 1], [4, 3], [4, 5], [4, 7], [4, 9], [4, 11], [4, 13], [4, 15], [4, 17], [4, 19], [4, 21], [4, 23], [5, 0], [5, 1], [5, 2], [5, 3], [5, 4], [5, 5], [5, 6], [5, 7], [5, 8], [5, 9], [5, 10], [5, 11], [5, 12], [5, 13], [5, 14], [5, 15], [5, 16], [5, 17], [5, 18], [5, 19], [5, 20], [5, 21], [5, 22], [5, 23], [6, 1], [6, 5], [6, 7], [6, 11], [6, 13], [6, 17], [6, 19], [6, 23], [7, 0], [7, 1], [7, 2], [7, 3], [7, 4], [7, 5], [7, 6], [7, 7], [7, 8], [7, 9], [7, 10], [7, 11], [7, 12], [7, 13], [7, 14], [7, 15], [7, 16], [7, 17], [7, 18], [7, 19], [7, 20], [7, 21], [7, 22], [7, 23], [8, 1], [8, 3], [8, 5], [8, 7], [8, 9], [8, 11], [8, 13], [8, 15], [8, 17], [8, 19], [8, 21], [8, 23], [9, 1], [9, 2], [9, 4], [9, 5], [9, 7], [9, 8], [9, 10], [9, 11], [9, 13], [9, 14], [9, 16], [9, 17], [9, 19], [9, 20], [9, 22], [9, 23], [10, 1], [10, 3], [10, 5], [10, 7], [10, 9], [10, 11], [10, 13], [10, 15], [10, 17], [10, 19], [10, 21], [10, 23], [11, 0], [11, 1], [11, 2], [11, 3], [11, 4], [11, 5], [11, 6], [11, 7], [11, 8], [11, 9], [11, 10], [11, 11], [11, 12], [11, 13], [11, 14], [11, 15], [11, 16], [11, 17], [11, 18], [11, 19], [11, 20], [11, 21], [11, 22], [11, 23], [12, 1], [12, 5], [12, 7], [12, 11]]
def S1_24 : List Int := [4, 68, 100, 164, 0, 27, 39, 55, 67, 91, 99, 123, 135, 151, 163, 187, 188, 165, 152, 136, 124, 101, 92, 69, 56, 40, 28, 5, 26, 54, 90, 122, 150, 186, 166, 137, 102, 70, 41, 6, 25, 38, 66, 89, 121, 134, 162, 185, 167, 153, 125, 103, 71, 57, 29, 7, 24, 53, 88, 120, 149, 184, 168, 138, 104, 72, 42, 8, 1, 23, 37, 52, 65, 87, 98, 119, 133, 148, 161, 183, 189, 169, 154, 139, 126, 105, 93, 73, 58, 43, 30, 9, 22, 86, 118, 182, 170, 106, 74, 10, 2, 21, 36, 51, 64, 85, 97, 117, 132, 147, 160, 181, 190, 171, 155, 140, 127, 107, 94, 75, 59, 44, 31, 11, 20, 50, 84, 116, 146, 180, 172, 141, 108, 76, 45, 12, 19, 35, 63, 83, 115, 131, 159, 179, 173, 156, 128, 109, 77, 60, 32, 13, 18, 49, 82, 114, 145, 178, 174, 142, 110, 78, 46, 14, 3, 17, 34, 48, 62, 81, 96, 113, 130, 144, 158, 177, 191, 175, 157, 143, 129, 111, 95, 79, 61, 47, 33, 15, 16, 80, 112, 176]
def R1_24 : List Int := [5, 73, 107, 175, 0, 4, 28, 41, 57, 72, 93, 106, 127, 141, 156, 174, 191, 176, 157, 142, 128, 108, 94, 74, 58, 42, 29, 6, 27, 40, 71, 105, 140, 173, 177, 143, 109, 75, 43, 7, 26, 39, 56, 70, 104, 126, 155, 172, 178, 158, 129, 110, 76, 59, 30, 8, 25, 55, 69, 103, 139, 171, 179, 144, 111, 77, 44, 9, 1, 24, 38, 54, 67, 68, 92, 102, 125, 138, 154, 170, 190, 180, 159, 145, 130, 112, 95, 78, 60, 45, 31, 10, 23, 91, 101, 169, 181, 113, 79, 11, 2, 22, 37, 53, 66, 90, 99, 100, 124, 137, 153, 168, 189, 182, 160, 146, 131, 114, 96, 80, 61, 46, 32, 12, 21, 52, 89, 123, 136, 167, 183, 147, 115, 81, 47, 13, 20, 36, 65, 88, 122, 135, 152, 166, 184, 161, 132, 116, 82, 62, 33, 14, 19, 51, 87, 121, 151, 165, 185, 148, 117, 83, 48, 15, 3, 18, 35, 50, 64, 86, 98, 120, 134, 150, 163, 164, 188, 186, 162, 149, 133, 118, 97, 84, 63, 49, 34, 16, 17, 85, 119, 187]
theorem nd1_24 : (decide (P1_24.Nodup) && lenB 2 P1_24) = true := by decide +kernel
theorem s1_24 : prm P1_24 (fun x => tclL 24 (stS x)) = S1_24 := by decide +kernel
theorem r1_24 : prm P1_24 (fun x => tclL 24 (stR x)) = R1_24 := by decide +kernel
theorem c1_24 : covB S1_24 R1_24 = true := by decide +kernel
theorem p1_24 : pts1 24 = P1_24 := by decide +kernel
theorem o1_24 : ones 24 = P1_24 := by decide +kernel
def P2_1 : List Q := [[0, 0, 0, 0]]
def S2_1 : List Int := [0]
def R2_1 : List Int := [0]
theorem nd2_1 : (decide (P2_1.Nodup) && lenB 4 P2_1) = true := by decide +kernel
theorem s2_1 : prm P2_1 (fun x => tclL 1 (stS x)) = S2_1 := by decide +kernel
theorem r2_1 : prm P2_1 (fun x => tclL 1 (stR x)) = R2_1 := by decide +kernel
theorem c2_1 : covB S2_1 R2_1 = true := by decide +kernel
def Oa_1 : List Q := [[0, 0, 0, 0]]
theorem oa_1 : ord2 1 = some Oa_1 := by decide +kernel
theorem qa_1 : ptsOf 1 Oa_1 = P2_1 := by decide +kernel
def Ob_1 : List Q := [[0, 0, 0, 0]]
theorem ob_1 : ordL 1 = some Ob_1 := by decide +kernel
theorem qb_1 : ptsOf 1 Ob_1 = P2_1 := by decide +kernel
def P2_2 : List Q := [[1, 0, 0, 1], [0, 1, 1, 0], [0, 1, 1, 1], [1, 0, 1, 1], [1, 1, 0, 1], [1, 1, 1, 0]]
def S2_2 : List Int := [1, 0, 3, 2, 5, 4]
def R2_2 : List Int := [2, 4, 5, 1, 3, 0]
theorem nd2_2 : (decide (P2_2.Nodup) && lenB 4 P2_2) = true := by decide +kernel
theorem s2_2 : prm P2_2 (fun x => tclL 2 (stS x)) = S2_2 := by decide +kernel
theorem r2_2 : prm P2_2 (fun x => tclL 2 (stR x)) = R2_2 := by decide +kernel
theorem c2_2 : covB S2_2 R2_2 = true := by decide +kernel
def Oa_2 : List Q := [[1, 0, 0, 1], [0, 1, 1, 0], [0, 1, 1, 1], [1, 1, 0, 1], [1, 0, 1, 1], [1, 1, 1, 0]]
theorem oa_2 : ord2 2 = some Oa_2 := by decide +kernel
theorem qa_2 : ptsOf 2 Oa_2 = P2_2 := by decide +kernel
def Ob_2 : List Q := [[1, 0, 0, 1], [0, 1, 1, 0], [1, 1, 0, 1], [0, 1, 1, 1], [1, 1, 1, 0], [1, 0, 1, 1]]
theorem ob_2 : ordL 2 = some Ob_2 := by decide +kernel
theorem qb_2 : ptsOf 2 Ob_2 = P2_2 := by decide +kernel
def P2_3 : List Q := [[1, 0, 0, 1], [0, 1, 2, 0], [0, 1, 2, 1], [0, 1, 2, 2], [1, 0, 1, 1], [1, 0, 2, 1], [1, 1, 0, 1], [1, 1, 1, 2], [1, 1, 2, 0], [1, 2, 0, 1], [1, 2, 1, 0], [1, 2, 2, 2]]
def S2_3 : List Int := [1, 0, 4, 5, 2, 3, 10, 11, 9, 8, 6, 7]
def R2_3 : List Int := [3, 6, 7, 8, 1, 2, 4, 5, 0, 11, 9, 10]
theorem nd2_3 : (decide (P2_3.Nodup) && lenB 4 P2_3) = true := by decide +kernel
theorem s2_3 : prm P2_3 (fun x => tclL 3 (stS x)) = S2_3 := by decide +kernel
theorem r2_3 : prm P2_3 (fun x => tclL 3 (stR x)) = R2_3 := by decide +kernel
theorem c2_3 : covB S2_3 R2_3 = true := by decide +kernel
def Oa_3 : List Q := [[1, 0, 0, 1], [0, 1, 2, 0], [0, 1, 2, 2], [1, 1, 0, 1], [1, 0, 2, 1], [1, 1, 2, 0], [1, 2, 1, 0], [1, 0, 1, 1], [0, 1, 2, 1], [1, 2, 0, 1], [1, 1, 1, 2], [1, 2, 2, 2]]
theorem oa_3 : ord2 3 = some Oa_3 := by decide +kernel
theorem qa_3 : ptsOf 3 Oa_3 = P2_3 := by decide +kernel
def Ob_3 : List Q := [[1, 0, 0, 1], [0, 1, 2, 0], [1, 1, 0, 1], [0, 1, 2, 2], [1, 2, 1, 0], [1, 2, 0, 1], [1, 0, 2, 1], [0, 1, 2, 1], [1, 0, 1, 1], [1, 1, 2, 0], [1, 1, 1, 2], [1, 2, 2, 2]]
theorem ob_3 : ordL 3 = some Ob_3 := by decide +kernel
theorem qb_3 : ptsOf 3 Ob_3 = P2_3 := by decide +kernel
def P2_4 : List Q := [[1, 0, 0, 1], [0, 1, 3, 0], [0, 1, 3, 1], [0, 1, 3, 2], [0, 1, 3, 3], [1, 0, 1, 1], [1, 0, 2, 1], [1, 0, 3, 1], [1, 1, 0, 1], [1, 1, 1, 2], [1, 1, 2, 3], [1, 1, 3, 0], [1, 2, 0, 1], [1, 2, 1, 3], [1, 2, 2, 1], [1, 2, 3, 3], [1, 3, 0, 1], [1, 3, 1, 0], [1, 3, 2, 3], [1, 3, 3, 2], [2, 1, 1, 1], [2, 1, 1, 3], [2, 1, 3, 0], [2, 1, 3, 2]]
def S2_4 : List Int := [1, 0, 5, 6, 7, 2, 3, 4, 17, 18, 19, 16, 22, 20, 23, 21, 11, 8, 9, 10, 13, 15, 12, 14]
def R2_4 : List Int := [4, 8, 9, 10, 11, 1, 2, 3, 5, 6, 7, 0, 20, 23, 21, 22, 15, 12, 13, 14, 17, 19, 16, 18]
theorem nd2_4 : (decide (P2_4.Nodup) && lenB 4 P2_4) = true := by decide +kernel
theorem s2_4 : prm P2_4 (fun x => tclL 4 (stS x)) = S2_4 := by decide +kernel
theorem r2_4 : prm P2_4 (fun x => tclL 4 (stR x)) = R2_4 := by decide +kernel
theorem c2_4 : covB S2_4 R2_4 = true := by decide +kernel
def Oa_4 : List Q := [[1, 0, 0, 1], [0, 1, 3, 0], [0, 1, 3, 3], [1, 1, 0, 1], [1, 0, 3, 1], [1, 1, 3, 0], [1, 3, 1, 0], [1, 0, 1, 1], [0, 1, 3, 2], [1, 3, 0, 1], [1, 2, 0, 1], [0, 1, 3, 1], [1, 0, 2, 1], [1, 1, 2, 3], [1, 2, 3, 3], [2, 1, 3, 0], [2, 1, 1, 1], [1, 1, 1, 2], [1, 3, 3, 2], [2, 1, 1, 3], [1, 2, 1, 3], [1, 3, 2, 3], [1, 2, 2, 1], [2, 1, 3, 2]]
theorem oa_4 : ord2 4 = some Oa_4 := by decide +kernel
theorem qa_4 : ptsOf 4 Oa_4 = P2_4 := by decide +kernel
def Ob_4 : List Q := [[1, 0, 0, 1], [0, 1, 3, 0], [1, 1, 0, 1], [0, 1, 3, 3], [1, 3, 1, 0], [1, 2, 0, 1], [1, 0, 3, 1], [0, 1, 3, 2], [1, 0, 1, 1], [2, 1, 3, 0], [1, 3, 0, 1], [1, 1, 3, 0], [1, 0, 2, 1], [0, 1, 3, 1], [1, 1, 1, 2], [2, 1, 1, 1], [1, 2, 3, 3], [1, 1, 2, 3], [1, 3, 2, 3], [1, 2, 1, 3], [2, 1, 3, 2], [2, 1, 1, 3], [1, 3, 3, 2], [1, 2, 2, 1]]
theorem ob_4 : ordL 4 = some Ob_4 := by decide +kernel
theorem qb_4 : ptsOf 4 Ob_4 = P2_4 := by decide +kernel
def P2_5 : List Q := [[1, 0, 0, 1], [0, 1, 4, 0], [0, 1, 4, 1], [0, 1, 4, 2], [0, 1, 4, 3], [0, 1, 4, 4], [0, 2, 2, 0], [0, 2, 2, 1], [0, 2, 2, 2], [0, 2, 2, 3], [0, 2, 2, 4], [1, 0, 1, 1], [1, 0, 2, 1], [1, 0, 3, 1], [1, 0, 4, 1], [1, 1, 0, 1], [1, 1, 1, 2], [1, 1, 2, 3], [1, 1, 3, 4], [1, 1, 4, 0], [1, 2, 0, 1], [1, 2, 1, 3], [1, 2, 2, 0], [1, 2, 3, 2], [1, 2, 4, 4], [1, 3, 0, 1], [1, 3, 1, 4], [1, 3, 2, 2], [1, 3, 3, 0], [1, 3, 4, 3], [1, 4, 0, 1], [1, 4, 1, 0], [1, 4, 2, 4], [1, 4, 3, 3], [1, 4, 4, 2], [2, 0, 0, 3], [2, 0, 1, 3], [2, 0, 2, 3], [2, 0, 3, 3], [2, 0, 4, 3], [2, 1, 0, 3], [2, 1, 1, 1], [2, 1, 2, 4], [2, 1, 3, 2], [2, 1, 4, 0], [2, 2, 0, 3], [2, 2, 1, 4], [2, 2, 2, 0], [2, 2, 3, 1], [2, 2, 4, 2], [2, 3, 0, 3], [2, 3, 1, 2], [2, 3, 2, 1], [2, 3, 3, 0], [2, 3, 4, 4], [2, 4, 0, 3], [2, 4, 1, 0], [2, 4, 2, 2], [2, 4, 3, 4], [2, 4, 4, 1]]
def S2_5 : List Int := [1, 0, 11, 12, 13, 14, 35, 36, 37, 38, 39, 2, 3, 4, 5, 31, 32, 33, 34, 30, 56, 58, 55, 57, 59, 44, 41, 43, 40, 42, 19, 15, 16, 17, 18, 6, 7, 8, 9, 10, 28, 26, 29, 27, 25, 53, 54, 50, 51, 52, 47, 48, 49, 45, 46, 22, 20, 23, 21, 24]
def R2_5 : List Int := [5, 15, 16, 17, 18, 19, 45, 46, 47, 48, 49, 1, 2, 3, 4, 11, 12, 13, 14, 0, 41, 43, 40, 42, 44, 54, 51, 53, 50, 52, 24, 20, 21, 22, 23, 8, 9, 10, 6, 7, 33, 31, 34, 32, 30, 38, 39, 35, 36, 37, 57, 58, 59, 55, 56, 27, 25, 28, 26, 29]
theorem nd2_5 : (decide (P2_5.Nodup) && lenB 4 P2_5) = true := by decide +kernel
theorem s2_5 : prm P2_5 (fun x => tclL 5 (stS x)) = S2_5 := by decide +kernel
theorem r2_5 : prm P2_5 (fun x => tclL 5 (stR x)) = R2_5 := by decide +kernel
theorem c2_5 : covB S2_5 R2_5 = true := by decide +kernel
def Oa_5 : List Q := [[1, 0, 0, 1], [0, 1, 4, 0], [0, 1, 4, 4], [1, 1, 0, 1], [1, 0, 4, 1], [1, 1, 4, 0], [1, 4, 1, 0], [1, 0, 1, 1], [0, 1, 4, 3], [1, 4, 0, 1], [1, 2, 0, 1], [0, 1, 4, 1], [1, 0, 3, 1], [1, 1, 3, 4], [1, 2, 4, 4], [2, 4, 1, 0], [2, 1, 1, 1], [1, 1, 1, 2], [0, 1, 4, 2], [1, 4, 4, 2], [2, 4, 4, 1], [2, 1, 4, 0], [1, 3, 0, 1], [1, 3, 1, 4], [1, 4, 2, 4], [1, 0, 2, 1], [1, 1, 2, 3], [1, 2, 3, 2], [1, 3, 4, 3], [2, 3, 4, 4], [2, 3, 1, 2], [1, 2, 1, 3], [1, 4, 3, 3], [2, 4, 2, 2], [2, 1, 2, 4], [2, 3, 2, 1], [2, 2, 1, 4], [2, 2, 3, 1], [2, 4, 3, 4], [2, 1, 3, 2], [1, 2, 2, 0], [1, 3, 3, 0], [2, 2, 4, 2], [2, 0, 4, 3], [2, 0, 1, 3], [1, 3, 2, 2], [2, 4, 0, 3], [2, 1, 0, 3], [2, 3, 0, 3], [2, 0, 2, 3], [0, 2, 2, 4], [0, 2, 2, 1], [0, 2, 2, 3], [2, 3, 3, 0], [2, 2, 2, 0], [0, 2, 2, 2], [2, 0, 3, 3], [2, 2, 0, 3], [2, 0, 0, 3], [0, 2, 2, 0]]
theorem oa_5 : ord2 5 = some Oa_5 := by decide +kernel
theorem qa_5 : ptsOf 5 Oa_5 = P2_5 := by decide +kernel
def Ob_5 : List Q := [[1, 0, 0, 1], [0, 1, 4, 0], [1, 1, 0, 1], [0, 1, 4, 4], [1, 4, 1, 0], [1, 2, 0, 1], [1, 0, 4, 1], [0, 1, 4, 3], [1, 0, 1, 1], [2, 4, 1, 0], [1, 3, 0, 1], [1, 1, 4, 0], [1, 0, 3, 1], [0, 1, 4, 2], [0, 1, 4, 1], [1, 1, 1, 2], [2, 1, 1, 1], [2, 1, 4, 0], [1, 4, 0, 1], [1, 2, 4, 4], [1, 1, 3, 4], [1, 0, 2, 1], [1, 4, 2, 4], [1, 2, 1, 3], [1, 3, 1, 4], [2, 3, 1, 2], [2, 3, 4, 4], [2, 4, 4, 1], [1, 3, 4, 3], [1, 4, 4, 2], [1, 2, 3, 2], [1, 1, 2, 3], [2, 4, 3, 4], [2, 2, 3, 1], [2, 0, 1, 3], [2, 2, 1, 4], [2, 0, 4, 3], [2, 1, 2, 4], [2, 4, 2, 2], [1, 3, 3, 0], [1, 4, 3, 3], [1, 2, 2, 0], [2, 1, 3, 2], [0, 2, 2, 1], [0, 2, 2, 4], [2, 2, 4, 2], [2, 3, 2, 1], [2, 1, 0, 3], [2, 4, 0, 3], [1, 3, 2, 2], [2, 3, 3, 0], [0, 2, 2, 3], [2, 0, 2, 3], [2, 3, 0, 3], [2, 2, 0, 3], [2, 0, 3, 3], [0, 2, 2, 0], [0, 2, 2, 2], [2, 2, 2, 0], [2, 0, 0, 3]]
theorem ob_5 : ordL 5 = some Ob_5 := by decide +kernel
theorem qb_5 : ptsOf 5 Ob_5 = P2_5 := by decide +kernel
def P2_6 : List Q := [[1, 0, 0, 1], [0, 1, 5, 0], [0, 1, 5, 1], [0, 1, 5, 2], [0, 1, 5, 3], [0, 1, 5, 4], [0, 1, 5, 5], [1, 0, 1, 1], [1, 0, 2, 1], [1, 0, 3, 1], [1, 0, 4, 1], [1, 0, 5, 1], [1, 1, 0, 1], [1, 1, 1, 2], [1, 1, 2, 3], [1, 1, 3, 4], [1, 1, 4, 5], [1, 1, 5, 0], [1, 2, 0, 1], [1, 2, 1, 3], [1, 2, 2, 5], [1, 2, 3, 1], [1, 2, 4, 3], [1, 2, 5, 5], [1, 3, 0, 1], [1, 3, 1, 4], [1, 3, 2, 1], [1, 3, 3, 4], [1, 3, 4, 1], [1, 3, 5, 4], [1, 4, 0, 1], [1, 4, 1, 5], [1, 4, 2, 3], [1, 4, 3, 1], [1, 4, 4, 5], [1, 4, 5, 3], [1, 5, 0, 1], [1, 5, 1, 0], [1, 5, 2, 5], [1, 5, 3, 4], [1, 5, 4, 3], [1, 5, 5, 2], [2, 1, 1, 1], [2, 1, 1, 4], [2, 1, 3, 2], [2, 1, 3, 5], [2, 1, 5, 0], [2, 1, 5, 3], [2, 3, 1, 2], [2, 3, 1, 5], [2, 3, 3, 2], [2, 3, 3, 5], [2, 3, 5, 2], [2, 3, 5, 5], [2, 5, 1, 0], [2, 5, 1, 3], [2, 5, 3, 2], [2, 5, 3, 5], [2, 5, 5, 1], [2, 5, 5, 4], [3, 1, 2, 1], [3, 1, 2, 3], [3, 1, 2, 5], [3, 1, 5, 0], [3, 1, 5, 2], [3, 1, 5, 4], [3, 2, 1, 1], [3, 2, 1, 3], [3, 2, 1, 5], [3, 2, 4, 1], [3, 2, 4, 3], [3, 2, 4, 5]]
def S2_6 : List Int := [1, 0, 7, 8, 9, 10, 11, 2, 3, 4, 5, 6, 37, 38, 39, 40, 41, 36, 54, 57, 59, 55, 56, 58, 63, 60, 64, 61, 65, 62, 46, 42, 44, 47, 43, 45, 17, 12, 13, 14, 15, 16, 31, 34, 32, 35, 30, 33, 69, 66, 70, 67, 71, 68, 18, 21, 22, 19, 23, 20, 25, 27, 29, 24, 26, 28, 49, 51, 53, 48, 50, 52]
def R2_6 : List Int := [6, 12, 13, 14, 15, 16, 17, 1, 2, 3, 4, 5, 7, 8, 9, 10, 11, 0, 42, 44, 47, 43, 45, 46, 66, 70, 68, 69, 67, 71, 53, 48, 51, 52, 49, 50, 23, 18, 19, 20, 21, 22, 37, 40, 38, 41, 36, 39, 60, 65, 62, 64, 61, 63, 24, 27, 28, 25, 29, 26, 31, 33, 35, 30, 32, 34, 54, 56, 59, 55, 57, 58]
theorem nd2_6 : (decide (P2_6.Nodup) && lenB 4 P2_6) = true := by decide +kernel
theorem s2_6 : prm P2_6 (fun x => tclL 6 (stS x)) = S2_6 := by decide +kernel
theorem r2_6 : prm P2_6 (fun x => tclL 6 (stR x)) = R2_6 := by decide +kernel
theorem c2_6 : covB S2_6 R2_6 = true := by decide +kernel
def Oa_6 : List Q := [[1, 0, 0, 1], [0, 1, 5, 0], [0, 1, 5, 5], [1, 1, 0, 1], [1, 0, 5, 1], [1, 1, 5, 0], [1, 5, 1, 0], [1, 0, 1, 1], [0, 1, 5, 4], [1, 5, 0, 1], [1, 2, 0, 1], [0, 1, 5, 1], [1, 0, 4, 1], [1, 1, 4, 5], [1, 2, 5, 5], [2, 5, 1, 0], [2, 1, 1, 1], [1, 1, 1, 2], [0, 1, 5, 3], [1, 5, 5, 2], [2, 5, 5, 1], [2, 1, 5, 0], [1, 3, 0, 1], [1, 4, 1, 5], [1, 5, 2, 5], [1, 0, 2, 1], [1, 0, 3, 1], [1, 1, 3, 4], [1, 2, 4, 3], [1, 3, 5, 4], [1, 4, 0, 1], [3, 1, 5, 0], [3, 2, 1, 1], [2, 3, 1, 2], [1, 2, 1, 3], [0, 1, 5, 2], [1, 5, 4, 3], [2, 5, 3, 2], [2, 1, 3, 5], [3, 1, 2, 5], [3, 2, 4, 5], [2, 3, 5, 5], [2, 3, 1, 5], [3, 2, 4, 1], [3, 1, 2, 1], [2, 5, 3, 5], [2, 1, 3, 2], [1, 1, 2, 3], [1, 2, 3, 1], [1, 3, 4, 1], [1, 4, 5, 3], [2, 3, 5, 2], [3, 2, 1, 5], [3, 1, 5, 4], [2, 5, 1, 3], [1, 3, 1, 4], [1, 4, 2, 3], [1, 5, 3, 4], [2, 1, 1, 4], [3, 2, 1, 3], [2, 3, 3, 2], [3, 1, 2, 3], [2, 5, 5, 4], [1, 4, 4, 5], [1, 3, 3, 4], [3, 2, 4, 3], [2, 3, 3, 5], [1, 2, 2, 5], [1, 4, 3, 1], [1, 3, 2, 1], [3, 1, 5, 2], [2, 1, 5, 3]]
theorem oa_6 : ord2 6 = some Oa_6 := by decide +kernel
theorem qa_6 : ptsOf 6 Oa_6 = P2_6 := by decide +kernel
def Ob_6 : List Q := [[1, 0, 0, 1], [0, 1, 5, 0], [1, 1, 0, 1], [0, 1, 5, 5], [1, 5, 1, 0], [1, 2, 0, 1], [1, 0, 5, 1], [0, 1, 5, 4], [1, 0, 1, 1], [2, 5, 1, 0], [1, 3, 0, 1], [1, 1, 5, 0], [1, 0, 4, 1], [0, 1, 5, 3], [0, 1, 5, 1], [1, 1, 1, 2], [2, 1, 1, 1], [3, 1, 5, 0], [1, 4, 0, 1], [1, 5, 0, 1], [1, 2, 5, 5], [1, 1, 4, 5], [1, 0, 3, 1], [0, 1, 5, 2], [1, 5, 2, 5], [1, 2, 1, 3], [1, 4, 1, 5], [2, 3, 1, 2], [3, 2, 1, 1], [2, 1, 5, 0], [2, 5, 5, 1], [1, 3, 5, 4], [1, 5, 5, 2], [1, 2, 4, 3], [1, 1, 3, 4], [1, 0, 2, 1], [2, 5, 3, 5], [1, 3, 1, 4], [3, 2, 4, 1], [2, 5, 1, 3], [2, 3, 1, 5], [3, 1, 5, 4], [2, 3, 5, 5], [3, 1, 2, 5], [1, 4, 5, 3], [2, 5, 3, 2], [1, 3, 4, 1], [1, 5, 4, 3], [1, 2, 3, 1], [1, 1, 2, 3], [2, 1, 3, 2], [3, 1, 2, 1], [2, 1, 1, 4], [3, 2, 1, 3], [3, 2, 1, 5], [2, 5, 5, 4], [3, 2, 4, 5], [2, 1, 3, 5], [1, 4, 4, 5], [1, 3, 3, 4], [1, 5, 3, 4], [1, 2, 2, 5], [1, 4, 2, 3], [2, 3, 3, 5], [3, 2, 4, 3], [3, 1, 5, 2], [2, 1, 5, 3], [2, 3, 5, 2], [3, 1, 2, 3], [2, 3, 3, 2], [1, 4, 3, 1], [1, 3, 2, 1]]
theorem ob_6 : ordL 6 = some Ob_6 := by decide +kernel
theorem qb_6 : ptsOf 6 Ob_6 = P2_6 := by decide +kernel
def P2_7 : List Q := [[1, 0, 0, 1], [0, 1, 6, 0], [0, 1, 6, 1], [0, 1, 6, 2], [0, 1, 6, 3], [0, 1, 6, 4], [0, 1, 6, 5], [0, 1, 6, 6], [0, 2, 3, 0], [0, 2, 3, 1], [0, 2, 3, 2], [0, 2, 3, 3], [0, 2, 3, 4], [0, 2, 3, 5], [0, 2, 3, 6], [0, 3, 2, 0], [0, 3, 2, 1], [0, 3, 2, 2], [0, 3, 2, 3], [0, 3, 2, 4], [0, 3, 2, 5], [0, 3, 2, 6], [1, 0, 1, 1], [1, 0, 2, 1], [1, 0, 3, 1], [1, 0, 4, 1], [1, 0, 5, 1], [1, 0, 6, 1], [1, 1, 0, 1], [1, 1, 1, 2], [1, 1, 2, 3], [1, 1, 3, 4], [1, 1, 4, 5], [1, 1, 5, 6], [1, 1, 6, 0], [1, 2, 0, 1], [1, 2, 1, 3], [1, 2, 2, 5], [1, 2, 3, 0], [1, 2, 4, 2], [1, 2, 5, 4], [1, 2, 6, 6], [1, 3, 0, 1], [1, 3, 1, 4], [1, 3, 2, 0], [1, 3, 3, 3], [1, 3, 4, 6], [1, 3, 5, 2], [1, 3, 6, 5], [1, 4, 0, 1], [1, 4, 1, 5], [1, 4, 2, 2], [1, 4, 3, 6], [1, 4, 4, 3], [1, 4, 5, 0], [1, 4, 6, 4], [1, 5, 0, 1], [1, 5, 1, 6], [1, 5, 2, 4], [1, 5, 3, 2], [1, 5, 4, 0], [1, 5, 5, 5], [1, 5, 6, 3], [1, 6, 0, 1], [1, 6, 1, 0], [1, 6, 2, 6], [1, 6, 3, 5], [1, 6, 4, 4], [1, 6, 5, 3], [1, 6, 6, 2], [2, 0, 0, 4], [2, 0, 1, 4], [2, 0, 2, 4], [2, 0, 3, 4], [2, 0, 4, 4], [2, 0, 5, 4], [2, 0, 6, 4], [2, 1, 0, 4], [2, 1, 1, 1], [2, 1, 2, 5], [2, 1, 3, 2], [2, 1, 4, 6], [2, 1, 5, 3], [2, 1, 6, 0], [2, 2, 0, 4], [2, 2, 1, 5], [2, 2, 2, 6], [2, 2, 3, 0], [2, 2, 4, 1], [2, 2, 5, 2], [2, 2, 6, 3], [2, 3, 0, 4], [2, 3, 1, 2], [2, 3, 2, 0], [2, 3, 3, 5], [2, 3, 4, 3], [2, 3, 5, 1], [2, 3, 6, 6], [2, 4, 0, 4], [2, 4, 1, 6], [2, 4, 2, 1], [2, 4, 3, 3], [2, 4, 4, 5], [2, 4, 5, 0], [2, 4, 6, 2], [2, 5, 0, 4], [2, 5, 1, 3], [2, 5, 2, 2], [2, 5, 3, 1], [2, 5, 4, 0], [2, 5, 5, 6], [2, 5, 6, 5], [2, 6, 0, 4], [2, 6, 1, 0], [2, 6, 2, 3], [2, 6, 3, 6], [2, 6, 4, 2], [2, 6, 5, 5], [2, 6, 6, 1], [3, 0, 0, 5], [3, 0, 1, 5], [3, 0, 2, 5], [3, 0, 3, 5], [3, 0, 4, 5], [3, 0, 5, 5], [3, 0, 6, 5], [3, 1, 0, 5], [3, 1, 1, 3], [3, 1, 2, 1], [3, 1, 3, 6], [3, 1, 4, 4], [3, 1, 5, 2], [3, 1, 6, 0], [3, 2, 0, 5], [3, 2, 1, 1], [3, 2, 2, 4], [3, 2, 3, 0], [3, 2, 4, 3], [3, 2, 5, 6], [3, 2, 6, 2], [3, 3, 0, 5], [3, 3, 1, 6], [3, 3, 2, 0], [3, 3, 3, 1], [3, 3, 4, 2], [3, 3, 5, 3], [3, 3, 6, 4], [3, 4, 0, 5], [3, 4, 1, 4], [3, 4, 2, 3], [3, 4, 3, 2], [3, 4, 4, 1], [3, 4, 5, 0], [3, 4, 6, 6], [3, 5, 0, 5], [3, 5, 1, 2], [3, 5, 2, 6], [3, 5, 3, 3], [3, 5, 4, 0], [3, 5, 5, 4], [3, 5, 6, 1], [3, 6, 0, 5], [3, 6, 1, 0], [3, 6, 2, 2], [3, 6, 3, 4], [3, 6, 4, 6], [3, 6, 5, 1], [3, 6, 6, 3]]
def S2_7 : List Int := [1, 0, 22, 23, 24, 25, 26, 27, 70, 71, 72, 73, 74, 75, 76, 119, 120, 121, 122, 123, 124, 125, 2, 3, 4, 5, 6, 7, 64, 65, 66, 67, 68, 69, 63, 113, 115, 117, 112, 114, 116, 118, 162, 165, 161, 164, 167, 163, 166, 132, 128, 131, 127, 130, 126, 129, 83, 78, 80, 82, 77, 79, 81, 34, 28, 29, 30, 31, 32, 33, 8, 9, 10, 11, 12, 13, 14, 60, 57, 61, 58, 62, 59, 56, 109, 110, 111, 105, 106, 107, 108, 158, 156, 154, 159, 157, 155, 160, 136, 134, 139, 137, 135, 133, 138, 87, 88, 89, 90, 84, 85, 86, 38, 35, 39, 36, 40, 37, 41, 15, 16, 17, 18, 19, 20, 21, 54, 52, 50, 55, 53, 51, 49, 103, 99, 102, 98, 101, 104, 100, 152, 153, 147, 148, 149, 150, 151, 142, 143, 144, 145, 146, 140, 141, 93, 96, 92, 95, 91, 94, 97, 44, 42, 47, 45, 43, 48, 46]
def R2_7 : List Int := [7, 28, 29, 30, 31, 32, 33, 34, 84, 85, 86, 87, 88, 89, 90, 140, 141, 142, 143, 144, 145, 146, 1, 2, 3, 4, 5, 6, 22, 23, 24, 25, 26, 27, 0, 78, 80, 82, 77, 79, 81, 83, 134, 137, 133, 136, 139, 135, 138, 153, 149, 152, 148, 151, 147, 150, 97, 92, 94, 96, 91, 93, 95, 41, 35, 36, 37, 38, 39, 40, 11, 12, 13, 14, 8, 9, 10, 67, 64, 68, 65, 69, 66, 63, 74, 75, 76, 70, 71, 72, 73, 130, 128, 126, 131, 129, 127, 132, 157, 155, 160, 158, 156, 154, 159, 101, 102, 103, 104, 98, 99, 100, 45, 42, 46, 43, 47, 44, 48, 17, 18, 19, 20, 21, 15, 16, 61, 59, 57, 62, 60, 58, 56, 117, 113, 116, 112, 115, 118, 114, 124, 125, 119, 120, 121, 122, 123, 163, 164, 165, 166, 167, 161, 162, 107, 110, 106, 109, 105, 108, 111, 51, 49, 54, 52, 50, 55, 53]
theorem nd2_7 : (decide (P2_7.Nodup) && lenB 4 P2_7) = true := by decide +kernel
theorem s2_7 : prm P2_7 (fun x => tclL 7 (stS x)) = S2_7 := by decide +kernel
theorem r2_7 : prm P2_7 (fun x => tclL 7 (stR x)) = R2_7 := by decide +kernel
theorem c2_7 : covB S2_7 R2_7 = true := by decide +kernel
def Oa_7 : List Q := [[1, 0, 0, 1], [0, 1, 6, 0], [0, 1, 6, 6], [1, 1, 0, 1], [1, 0, 6, 1], [1, 1, 6, 0], [1, 6, 1, 0], [1, 0, 1, 1], [0, 1, 6, 5], [1, 6, 0, 1], [1, 2, 0, 1], [0, 1, 6, 1], [1, 0, 5, 1], [1, 1, 5, 6], [1, 2, 6, 6], [2, 6, 1, 0], [2, 1, 1, 1], [1, 1, 1, 2], [0, 1, 6, 4], [1, 6, 6, 2], [2, 6, 6, 1], [2, 1, 6, 0], [1, 3, 0, 1], [1, 5, 1, 6], [1, 6, 2, 6], [1, 0, 2, 1], [1, 0, 4, 1], [1, 1, 4, 5], [1, 2, 5, 4], [1, 3, 6, 5], [1, 5, 0, 1], [3, 6, 1, 0], [3, 2, 1, 1], [2, 3, 1, 2], [1, 2, 1, 3], [0, 1, 6, 2], [0, 1, 6, 3], [1, 6, 5, 3], [2, 6, 4, 2], [2, 1, 4, 6], [3, 6, 5, 1], [3, 2, 5, 6], [2, 3, 6, 6], [1, 4, 0, 1], [2, 4, 1, 6], [3, 5, 2, 6], [3, 1, 2, 1], [2, 6, 3, 6], [2, 1, 3, 2], [1, 1, 2, 3], [1, 0, 3, 1], [1, 1, 3, 4], [1, 2, 4, 2], [1, 3, 5, 2], [1, 5, 6, 3], [1, 4, 6, 4], [2, 4, 6, 2], [3, 5, 6, 1], [3, 1, 6, 0], [3, 4, 6, 6], [3, 5, 1, 2], [2, 5, 1, 3], [1, 4, 1, 5], [1, 3, 1, 4], [1, 5, 2, 4], [1, 6, 3, 5], [1, 6, 4, 4], [2, 6, 2, 3], [2, 1, 2, 5], [3, 6, 2, 2], [3, 2, 2, 4], [2, 3, 4, 3], [3, 1, 3, 6], [3, 4, 3, 2], [3, 5, 5, 4], [2, 5, 6, 5], [3, 3, 1, 6], [2, 3, 5, 1], [2, 5, 5, 6], [2, 2, 4, 1], [2, 4, 4, 5], [3, 4, 2, 3], [3, 6, 4, 6], [3, 2, 4, 3], [2, 3, 3, 5], [1, 2, 2, 5], [1, 2, 3, 0], [1, 3, 4, 6], [1, 5, 5, 5], [1, 4, 5, 0], [3, 5, 3, 3], [3, 3, 5, 3], [2, 5, 3, 1], [2, 2, 2, 6], [2, 4, 2, 1], [3, 0, 6, 5], [3, 1, 1, 3], [2, 2, 1, 5], [2, 0, 1, 4], [3, 3, 4, 2], [2, 4, 3, 3], [3, 1, 5, 2], [2, 6, 5, 5], [2, 1, 5, 3], [2, 6, 0, 4], [2, 1, 0, 4], [3, 6, 6, 3], [3, 2, 6, 2], [2, 3, 2, 0], [3, 1, 0, 5], [3, 4, 0, 5], [2, 5, 4, 0], [3, 0, 3, 5], [2, 2, 6, 3], [2, 0, 6, 4], [0, 3, 2, 6], [0, 3, 2, 1], [1, 4, 3, 6], [1, 5, 3, 2], [2, 0, 5, 4], [0, 2, 3, 1], [0, 2, 3, 4], [3, 0, 2, 5], [3, 5, 4, 0], [1, 4, 2, 2], [1, 3, 2, 0], [1, 3, 3, 3], [1, 5, 4, 0], [1, 4, 4, 3], [3, 5, 0, 5], [3, 3, 2, 0], [2, 2, 0, 4], [2, 4, 0, 4], [0, 3, 2, 3], [0, 3, 2, 5], [2, 0, 3, 4], [0, 2, 3, 6], [0, 2, 3, 2], [3, 3, 6, 4], [3, 0, 1, 5], [3, 4, 1, 4], [0, 2, 3, 5], [2, 0, 4, 4], [0, 3, 2, 2], [0, 3, 2, 4], [2, 3, 0, 4], [2, 5, 0, 4], [3, 4, 5, 0], [3, 6, 0, 5], [3, 2, 0, 5], [3, 6, 3, 4], [3, 2, 3, 0], [3, 1, 4, 4], [3, 4, 4, 1], [2, 5, 2, 2], [3, 0, 0, 5], [3, 3, 3, 1], [3, 0, 5, 5], [0, 2, 3, 3], [2, 0, 2, 4], [3, 0, 4, 5], [2, 2, 5, 2], [0, 2, 3, 0], [2, 2, 3, 0], [3, 3, 0, 5], [2, 4, 5, 0], [0, 3, 2, 0], [2, 0, 0, 4]]
theorem oa_7 : ord2 7 = some Oa_7 := by decide +kernel
theorem qa_7 : ptsOf 7 Oa_7 = P2_7 := by decide +kernel
def Ob_7 : List Q := [[1, 0, 0, 1], [0, 1, 6, 0], [1, 1, 0, 1], [0, 1, 6, 6], [1, 6, 1, 0], [1, 2, 0, 1], [1, 0, 6, 1], [0, 1, 6, 5], [1, 0, 1, 1], [2, 6, 1, 0], [1, 3, 0, 1], [1, 1, 6, 0], [1, 0, 5, 1], [0, 1, 6, 4], [0, 1, 6, 1], [1, 1, 1, 2], [2, 1, 1, 1], [3, 6, 1, 0], [1, 4, 0, 1], [1, 6, 0, 1], [1, 2, 6, 6], [1, 1, 5, 6], [1, 0, 4, 1], [0, 1, 6, 3], [1, 6, 2, 6], [1, 2, 1, 3], [1, 5, 1, 6], [2, 3, 1, 2], [3, 2, 1, 1], [3, 1, 6, 0], [1, 5, 0, 1], [2, 6, 6, 1], [1, 3, 6, 5], [1, 6, 6, 2], [1, 2, 5, 4], [1, 1, 4, 5], [1, 0, 3, 1], [0, 1, 6, 2], [1, 0, 2, 1], [2, 6, 3, 6], [1, 3, 1, 4], [3, 5, 2, 6], [2, 5, 1, 3], [2, 4, 1, 6], [3, 5, 1, 2], [3, 4, 6, 6], [2, 1, 6, 0], [3, 6, 5, 1], [1, 4, 6, 4], [2, 6, 4, 2], [1, 3, 5, 2], [1, 6, 5, 3], [1, 2, 4, 2], [1, 1, 3, 4], [1, 1, 2, 3], [2, 1, 3, 2], [3, 6, 4, 6], [1, 4, 1, 5], [3, 1, 2, 1], [2, 2, 4, 1], [2, 0, 1, 4], [2, 3, 5, 1], [3, 1, 1, 3], [3, 3, 1, 6], [3, 0, 6, 5], [2, 3, 6, 6], [3, 2, 5, 6], [3, 1, 3, 6], [1, 5, 6, 3], [2, 1, 4, 6], [3, 6, 2, 2], [1, 4, 5, 0], [2, 6, 2, 3], [1, 3, 4, 6], [1, 6, 4, 4], [1, 2, 3, 0], [1, 6, 3, 5], [1, 2, 2, 5], [1, 5, 2, 4], [2, 3, 3, 5], [3, 2, 4, 3], [3, 4, 2, 3], [2, 4, 4, 5], [0, 2, 3, 1], [2, 2, 1, 5], [2, 5, 5, 6], [1, 4, 3, 6], [3, 4, 1, 4], [0, 3, 2, 6], [3, 3, 6, 4], [3, 5, 6, 1], [2, 5, 6, 5], [2, 4, 6, 2], [3, 5, 5, 4], [3, 4, 3, 2], [2, 3, 4, 3], [3, 2, 2, 4], [3, 1, 0, 5], [1, 5, 5, 5], [2, 1, 2, 5], [3, 6, 6, 3], [1, 4, 4, 3], [2, 6, 0, 4], [1, 3, 3, 3], [2, 6, 5, 5], [1, 3, 2, 0], [2, 5, 3, 1], [2, 4, 3, 3], [3, 5, 4, 0], [3, 3, 4, 2], [3, 0, 2, 5], [0, 2, 3, 4], [2, 0, 5, 4], [1, 5, 3, 2], [3, 3, 3, 1], [3, 0, 1, 5], [0, 3, 2, 1], [3, 4, 4, 1], [2, 2, 2, 6], [2, 0, 6, 4], [3, 1, 5, 2], [3, 3, 5, 3], [3, 0, 3, 5], [3, 5, 3, 3], [2, 5, 4, 0], [3, 4, 0, 5], [2, 3, 2, 0], [3, 2, 6, 2], [3, 1, 4, 4], [1, 5, 4, 0], [2, 1, 0, 4], [3, 6, 3, 4], [2, 1, 5, 3], [3, 6, 0, 5], [1, 4, 2, 2], [2, 2, 6, 3], [2, 0, 3, 4], [2, 3, 0, 4], [0, 3, 2, 2], [3, 3, 2, 0], [2, 0, 4, 4], [0, 2, 3, 0], [0, 2, 3, 5], [2, 2, 5, 2], [0, 3, 2, 3], [3, 0, 4, 5], [2, 4, 2, 1], [0, 2, 3, 6], [3, 4, 5, 0], [2, 2, 0, 4], [3, 0, 0, 5], [3, 5, 0, 5], [2, 5, 2, 2], [3, 2, 3, 0], [3, 2, 0, 5], [0, 2, 3, 3], [2, 2, 3, 0], [2, 5, 0, 4], [0, 3, 2, 4], [2, 0, 0, 4], [2, 4, 5, 0], [0, 3, 2, 5], [0, 2, 3, 2], [3, 3, 0, 5], [3, 0, 5, 5], [2, 4, 0, 4], [0, 3, 2, 0], [2, 0, 2, 4]]
theorem ob_7 : ordL 7 = some Ob_7 := by decide +kernel
theorem qb_7 : ptsOf 7 Ob_7 = P2_7 := by decide +kernel
def P2_8 : List Q := [[1, 0, 0, 1], [0, 1, 7, 0], [0, 1, 7, 1], [0, 1, 7, 2], [0, 1, 7, 3], [0, 1, 7, 4], [0, 1, 7, 5], [0, 1, 7, 6], [0, 1, 7, 7], [0, 3, 5, 0], [0, 3, 5, 1], [0, 3, 5, 2], [0, 3, 5, 3], [0, 3, 5, 4], [0, 3, 5, 5], [0, 3, 5, 6], [0, 3, 5, 7], [1, 0, 1, 1], [1, 0, 2, 1], [1, 0, 3, 1], [1, 0, 4, 1], [1, 0, 5, 1], [1, 0, 6, 1], [1, 0, 7, 1], [1, 1, 0, 1], [1, 1, 1, 2], [1, 1, 2, 3], [1, 1, 3, 4], [1, 1, 4, 5], [1, 1, 5, 6], [1, 1, 6, 7], [1, 1, 7, 0], [1, 2, 0, 1], [1, 2, 1, 3], [1, 2, 2, 5], [1, 2, 3, 7], [1, 2, 4, 1], [1, 2, 5, 3], [1, 2, 6, 5], [1, 2, 7, 7], [1, 3, 0, 1], [1, 3, 1, 4], [1, 3, 2, 7], [1, 3, 3, 2], [1, 3, 4, 5], [1, 3, 5, 0], [1, 3, 6, 3], [1, 3, 7, 6], [1, 4, 0, 1], [1, 4, 1, 5], [1, 4, 2, 1], [1, 4, 3, 5], [1, 4, 4, 1], [1, 4, 5, 5], [1, 4, 6, 1], [1, 4, 7, 5], [1, 5, 0, 1], [1, 5, 1, 6], [1, 5, 2, 3], [1, 5, 3, 0], [1, 5, 4, 5], [1, 5, 5, 2], [1, 5, 6, 7], [1, 5, 7, 4], [1, 6, 0, 1], [1, 6, 1, 7], [1, 6, 2, 5], [1, 6, 3, 3], [1, 6, 4, 1], [1, 6, 5, 7], [1, 6, 6, 5], [1, 6, 7, 3], [1, 7, 0, 1], [1, 7, 1, 0], [1, 7, 2, 7], [1, 7, 3, 6], [1, 7, 4, 5], [1, 7, 5, 4], [1, 7, 6, 3], [1, 7, 7, 2], [2, 1, 1, 1], [2, 1, 1, 5], [2, 1, 3, 2], [2, 1, 3, 6], [2, 1, 5, 3], [2, 1, 5, 7], [2, 1, 7, 0], [2, 1, 7, 4], [2, 3, 1, 2], [2, 3, 1, 6], [2, 3, 3, 1], [2, 3, 3, 5], [2, 3, 5, 0], [2, 3, 5, 4], [2, 3, 7, 3], [2, 3, 7, 7], [2, 5, 1, 3], [2, 5, 1, 7], [2, 5, 3, 0], [2, 5, 3, 4], [2, 5, 5, 1], [2, 5, 5, 5], [2, 5, 7, 2], [2, 5, 7, 6], [2, 7, 1, 0], [2, 7, 1, 4], [2, 7, 3, 3], [2, 7, 3, 7], [2, 7, 5, 2], [2, 7, 5, 6], [2, 7, 7, 1], [2, 7, 7, 5], [3, 0, 0, 3], [3, 0, 1, 3], [3, 0, 2, 3], [3, 0, 3, 3], [3, 0, 4, 3], [3, 0, 5, 3], [3, 0, 6, 3], [3, 0, 7, 3], [3, 1, 0, 3], [3, 1, 1, 6], [3, 1, 2, 1], [3, 1, 3, 4], [3, 1, 4, 7], [3, 1, 5, 2], [3, 1, 6, 5], [3, 1, 7, 0], [3, 2, 0, 3], [3, 2, 1, 1], [3, 2, 2, 7], [3, 2, 3, 5], [3, 2, 4, 3], [3, 2, 5, 1], [3, 2, 6, 7], [3, 2, 7, 5], [3, 3, 0, 3], [3, 3, 1, 4], [3, 3, 2, 5], [3, 3, 3, 6], [3, 3, 4, 7], [3, 3, 5, 0], [3, 3, 6, 1], [3, 3, 7, 2], [3, 4, 0, 3], [3, 4, 1, 7], [3, 4, 2, 3], [3, 4, 3, 7], [3, 4, 4, 3], [3, 4, 5, 7], [3, 4, 6, 3], [3, 4, 7, 7], [3, 5, 0, 3], [3, 5, 1, 2], [3, 5, 2, 1], [3, 5, 3, 0], [3, 5, 4, 7], [3, 5, 5, 6], [3, 5, 6, 5], [3, 5, 7, 4], [3, 6, 0, 3], [3, 6, 1, 5], [3, 6, 2, 7], [3, 6, 3, 1], [3, 6, 4, 3], [3, 6, 5, 5], [3, 6, 6, 7], [3, 6, 7, 1], [3, 7, 0, 3], [3, 7, 1, 0], [3, 7, 2, 5], [3, 7, 3, 2], [3, 7, 4, 7], [3, 7, 5, 4], [3, 7, 6, 1], [3, 7, 7, 6], [4, 1, 3, 1], [4, 1, 3, 3], [4, 1, 3, 5], [4, 1, 3, 7], [4, 1, 7, 0], [4, 1, 7, 2], [4, 1, 7, 4], [4, 1, 7, 6], [4, 3, 1, 1], [4, 3, 1, 3], [4, 3, 1, 5], [4, 3, 1, 7], [4, 3, 5, 0], [4, 3, 5, 2], [4, 3, 5, 4], [4, 3, 5, 6]]
def S2_8 : List Int := [1, 0, 17, 18, 19, 20, 21, 22, 23, 112, 113, 114, 115, 116, 117, 118, 119, 2, 3, 4, 5, 6, 7, 8, 73, 74, 75, 76, 77, 78, 79, 72, 104, 107, 109, 111, 105, 106, 108, 110, 169, 172, 175, 170, 173, 168, 171, 174, 180, 176, 181, 177, 182, 178, 183, 179, 127, 122, 125, 120, 123, 126, 121, 124, 86, 80, 82, 84, 87, 81, 83, 85, 31, 24, 25, 26, 27, 28, 29, 30, 65, 69, 66, 70, 67, 71, 64, 68, 162, 166, 161, 165, 160, 164, 163, 167, 133, 129, 128, 132, 135, 131, 134, 130, 32, 36, 37, 33, 38, 34, 39, 35, 9, 10, 11, 12, 13, 14, 15, 16, 59, 62, 57, 60, 63, 58, 61, 56, 98, 97, 103, 101, 99, 96, 102, 100, 155, 156, 157, 158, 159, 152, 153, 154, 188, 184, 189, 185, 190, 186, 191, 187, 141, 142, 143, 136, 137, 138, 139, 140, 92, 90, 88, 94, 93, 91, 89, 95, 45, 40, 43, 46, 41, 44, 47, 42, 49, 51, 53, 55, 48, 50, 52, 54, 145, 147, 149, 151, 144, 146, 148, 150]
def R2_8 : List Int := [8, 24, 25, 26, 27, 28, 29, 30, 31, 136, 137, 138, 139, 140, 141, 142, 143, 1, 2, 3, 4, 5, 6, 7, 17, 18, 19, 20, 21, 22, 23, 0, 80, 82, 84, 87, 81, 83, 85, 86, 129, 132, 135, 130, 133, 128, 131, 134, 184, 190, 187, 189, 186, 188, 185, 191, 151, 146, 149, 144, 147, 150, 145, 148, 95, 88, 91, 92, 94, 89, 90, 93, 39, 32, 33, 34, 35, 36, 37, 38, 73, 77, 74, 78, 75, 79, 72, 76, 122, 126, 121, 125, 120, 124, 123, 127, 157, 153, 152, 156, 159, 155, 158, 154, 40, 44, 45, 41, 46, 42, 47, 43, 14, 15, 16, 9, 10, 11, 12, 13, 67, 70, 65, 68, 71, 66, 69, 64, 106, 104, 111, 108, 107, 105, 110, 109, 115, 116, 117, 118, 119, 112, 113, 114, 177, 183, 176, 182, 179, 181, 178, 180, 165, 166, 167, 160, 161, 162, 163, 164, 101, 99, 96, 102, 100, 98, 97, 103, 53, 48, 51, 54, 49, 52, 55, 50, 57, 59, 61, 63, 56, 58, 60, 62, 169, 171, 173, 175, 168, 170, 172, 174]
theorem nd2_8 : (decide (P2_8.Nodup) && lenB 4 P2_8) = true := by decide +kernel
theorem s2_8 : prm P2_8 (fun x => tclL 8 (stS x)) = S2_8 := by decide +kernel
theorem r2_8 : prm P2_8 (fun x => tclL 8 (stR x)) = R2_8 := by decide +kernel
theorem c2_8 : covB S2_8 R2_8 = true := by decide +kernel
def Oa_8 : List Q := [[1, 0, 0, 1], [0, 1, 7, 0], [0, 1, 7, 7], [1, 1, 0, 1], [1, 0, 7, 1], [1, 1, 7, 0], [1, 7, 1, 0], [1, 0, 1, 1], [0, 1, 7, 6], [1, 7, 0, 1], [1, 2, 0, 1], [0, 1, 7, 1], [1, 0, 6, 1], [1, 1, 6, 7], [1, 2, 7, 7], [2, 7, 1, 0], [2, 1, 1, 1], [1, 1, 1, 2], [0, 1, 7, 5], [1, 7, 7, 2], [2, 7, 7, 1], [2, 1, 7, 0], [1, 3, 0, 1], [1, 6, 1, 7], [1, 7, 2, 7], [1, 0, 2, 1], [1, 0, 5, 1], [1, 1, 5, 6], [1, 2, 6, 5], [1, 3, 7, 6], [1, 6, 0, 1], [3, 7, 1, 0], [3, 2, 1, 1], [2, 3, 1, 2], [1, 2, 1, 3], [0, 1, 7, 2], [0, 1, 7, 4], [1, 7, 6, 3], [2, 7, 5, 2], [2, 1, 5, 7], [3, 7, 6, 1], [3, 2, 6, 7], [2, 3, 7, 7], [1, 4, 0, 1], [2, 5, 1, 7], [3, 6, 2, 7], [3, 1, 2, 1], [2, 7, 3, 7], [2, 1, 3, 2], [1, 1, 2, 3], [1, 0, 4, 1], [1, 1, 4, 5], [1, 2, 5, 3], [1, 3, 6, 3], [1, 6, 7, 3], [1, 4, 7, 5], [2, 5, 7, 2], [3, 6, 7, 1], [3, 1, 7, 0], [4, 1, 7, 0], [4, 3, 1, 1], [3, 5, 1, 2], [2, 5, 1, 3], [1, 5, 1, 6], [1, 3, 1, 4], [1, 6, 2, 5], [1, 7, 3, 6], [1, 0, 3, 1], [0, 1, 7, 3], [1, 7, 5, 4], [2, 7, 3, 3], [2, 1, 3, 6], [3, 7, 3, 2], [3, 2, 3, 5], [2, 3, 5, 4], [4, 1, 3, 7], [4, 3, 5, 6], [3, 5, 6, 5], [2, 5, 7, 6], [1, 5, 0, 1], [3, 4, 1, 7], [3, 3, 6, 1], [3, 6, 6, 7], [3, 2, 5, 1], [3, 5, 5, 6], [3, 4, 2, 3], [3, 7, 4, 7], [3, 2, 4, 3], [2, 3, 3, 5], [1, 2, 2, 5], [1, 1, 3, 4], [1, 2, 4, 1], [1, 3, 5, 0], [1, 6, 6, 5], [1, 4, 6, 1], [2, 5, 5, 5], [3, 6, 4, 3], [3, 1, 4, 7], [1, 5, 7, 4], [3, 4, 6, 3], [3, 3, 3, 6], [3, 6, 3, 1], [3, 2, 2, 7], [3, 5, 2, 1], [3, 4, 7, 7], [4, 1, 7, 6], [3, 0, 1, 3], [2, 3, 1, 6], [2, 7, 1, 4], [3, 3, 2, 5], [4, 3, 5, 2], [4, 1, 3, 1], [1, 4, 1, 5], [2, 5, 3, 4], [3, 6, 5, 5], [3, 1, 5, 2], [2, 7, 5, 6], [2, 1, 5, 3], [1, 7, 4, 5], [2, 1, 1, 5], [3, 7, 0, 3], [3, 2, 0, 3], [2, 3, 3, 1], [4, 3, 1, 3], [3, 5, 3, 0], [2, 5, 5, 1], [3, 4, 4, 3], [4, 1, 3, 5], [3, 0, 6, 3], [2, 3, 7, 3], [2, 7, 7, 5], [3, 3, 7, 2], [4, 3, 1, 7], [1, 5, 6, 7], [0, 3, 5, 1], [0, 3, 5, 6], [3, 1, 6, 5], [1, 3, 4, 5], [3, 0, 5, 3], [3, 7, 2, 5], [4, 3, 5, 4], [3, 5, 4, 7], [2, 5, 3, 0], [1, 5, 2, 3], [1, 3, 2, 7], [1, 6, 3, 3], [1, 2, 3, 7], [1, 6, 5, 7], [1, 4, 5, 5], [3, 6, 1, 5], [3, 1, 1, 6], [3, 4, 3, 7], [3, 3, 0, 3], [3, 6, 0, 3], [3, 2, 7, 5], [3, 5, 7, 4], [1, 5, 5, 2], [0, 3, 5, 3], [3, 1, 3, 4], [1, 3, 3, 2], [3, 0, 2, 3], [3, 7, 7, 6], [3, 3, 1, 4], [3, 7, 5, 4], [0, 3, 5, 5], [0, 3, 5, 2], [1, 4, 3, 5], [3, 5, 0, 3], [3, 4, 5, 7], [2, 3, 5, 0], [2, 1, 7, 4], [4, 3, 5, 0], [4, 1, 7, 4], [3, 0, 3, 3], [3, 3, 4, 7], [1, 5, 4, 5], [1, 6, 4, 1], [0, 3, 5, 7], [1, 4, 2, 1], [3, 0, 4, 3], [1, 4, 4, 1], [3, 3, 5, 0], [4, 1, 3, 3], [4, 3, 1, 5], [4, 1, 7, 2], [3, 1, 0, 3], [3, 4, 0, 3], [0, 3, 5, 0], [3, 0, 7, 3], [0, 3, 5, 4], [3, 0, 0, 3], [1, 5, 3, 0]]
theorem oa_8 : ord2 8 = some Oa_8 := by decide +kernel
theorem qa_8 : ptsOf 8 Oa_8 = P2_8 := by decide +kernel
def Ob_8 : List Q := [[1, 0, 0, 1], [0, 1, 7, 0], [1, 1, 0, 1], [0, 1, 7, 7], [1, 7, 1, 0], [1, 2, 0, 1], [1, 0, 7, 1], [0, 1, 7, 6], [1, 0, 1, 1], [2, 7, 1, 0], [1, 3, 0, 1], [1, 1, 7, 0], [1, 0, 6, 1], [0, 1, 7, 5], [0, 1, 7, 1], [1, 1, 1, 2], [2, 1, 1, 1], [3, 7, 1, 0], [1, 4, 0, 1], [1, 7, 0, 1], [1, 2, 7, 7], [1, 1, 6, 7], [1, 0, 5, 1], [0, 1, 7, 4], [1, 7, 2, 7], [1, 2, 1, 3], [1, 6, 1, 7], [2, 3, 1, 2], [3, 2, 1, 1], [4, 1, 7, 0], [1, 5, 0, 1], [2, 7, 7, 1], [1, 3, 7, 6], [1, 7, 7, 2], [1, 2, 6, 5], [1, 1, 5, 6], [1, 0, 4, 1], [0, 1, 7, 3], [1, 0, 2, 1], [2, 7, 3, 7], [1, 3, 1, 4], [3, 6, 2, 7], [2, 5, 1, 3], [2, 5, 1, 7], [3, 5, 1, 2], [4, 3, 1, 1], [3, 1, 7, 0], [1, 6, 0, 1], [2, 1, 7, 0], [3, 7, 6, 1], [1, 4, 7, 5], [2, 7, 5, 2], [1, 3, 6, 3], [1, 7, 6, 3], [1, 2, 5, 3], [1, 1, 4, 5], [1, 0, 3, 1], [0, 1, 7, 2], [1, 1, 2, 3], [2, 1, 3, 2], [3, 7, 4, 7], [1, 4, 1, 5], [3, 1, 2, 1], [3, 2, 5, 1], [2, 7, 1, 4], [3, 3, 6, 1], [3, 0, 1, 3], [3, 4, 1, 7], [4, 1, 7, 6], [3, 4, 7, 7], [2, 3, 7, 7], [3, 2, 6, 7], [4, 1, 3, 7], [1, 5, 7, 4], [2, 1, 5, 7], [3, 7, 3, 2], [1, 4, 6, 1], [2, 7, 3, 3], [1, 3, 5, 0], [1, 7, 5, 4], [1, 2, 4, 1], [1, 1, 3, 4], [1, 7, 3, 6], [1, 2, 2, 5], [1, 6, 2, 5], [2, 3, 3, 5], [3, 2, 4, 3], [4, 1, 3, 1], [1, 5, 1, 6], [3, 4, 2, 3], [3, 5, 5, 6], [2, 1, 1, 5], [3, 6, 6, 7], [0, 3, 5, 1], [3, 3, 1, 4], [4, 3, 1, 3], [4, 3, 1, 7], [3, 7, 7, 6], [3, 6, 7, 1], [2, 5, 7, 6], [2, 5, 7, 2], [3, 5, 6, 5], [4, 3, 5, 6], [3, 1, 4, 7], [1, 6, 7, 3], [2, 3, 5, 4], [3, 2, 3, 5], [1, 5, 6, 7], [2, 1, 3, 6], [3, 7, 0, 3], [1, 4, 5, 5], [1, 3, 4, 5], [1, 7, 4, 5], [1, 2, 3, 7], [2, 7, 5, 6], [1, 3, 2, 7], [3, 6, 5, 5], [2, 5, 3, 0], [2, 5, 3, 4], [3, 5, 4, 7], [4, 3, 5, 4], [4, 3, 5, 2], [3, 7, 2, 5], [3, 3, 2, 5], [3, 0, 5, 3], [1, 6, 5, 7], [2, 3, 1, 6], [3, 1, 6, 5], [0, 3, 5, 6], [3, 6, 1, 5], [3, 4, 3, 7], [4, 1, 7, 4], [3, 2, 7, 5], [3, 2, 2, 7], [2, 7, 7, 5], [3, 3, 3, 6], [3, 0, 6, 3], [3, 4, 6, 3], [4, 1, 3, 5], [3, 4, 4, 3], [3, 6, 4, 3], [2, 5, 5, 1], [2, 5, 5, 5], [3, 5, 3, 0], [3, 1, 1, 6], [1, 6, 6, 5], [2, 3, 3, 1], [3, 2, 0, 3], [1, 5, 5, 2], [3, 7, 5, 4], [1, 4, 4, 1], [1, 3, 3, 2], [2, 1, 5, 3], [1, 4, 2, 1], [3, 1, 5, 2], [3, 0, 4, 3], [0, 3, 5, 5], [3, 3, 5, 0], [0, 3, 5, 3], [4, 3, 1, 5], [3, 5, 7, 4], [3, 5, 2, 1], [2, 1, 7, 4], [3, 6, 3, 1], [4, 3, 5, 0], [3, 3, 0, 3], [3, 0, 3, 3], [3, 5, 0, 3], [1, 5, 4, 5], [1, 4, 3, 5], [1, 6, 3, 3], [2, 3, 5, 0], [4, 1, 7, 2], [1, 5, 2, 3], [3, 4, 5, 7], [0, 3, 5, 4], [3, 3, 4, 7], [0, 3, 5, 2], [0, 3, 5, 0], [3, 0, 7, 3], [3, 3, 7, 2], [3, 0, 2, 3], [1, 6, 4, 1], [2, 3, 7, 3], [3, 1, 3, 4], [3, 4, 0, 3], [4, 1, 3, 3], [3, 6, 0, 3], [3, 0, 0, 3], [1, 5, 3, 0], [0, 3, 5, 7], [3, 1, 0, 3]]
theorem ob_8 : ordL 8 = some Ob_8 := by decide +kernel
theorem qb_8 : ptsOf 8 Ob_8 = P2_8 := by decide +kernel
def NS1 : List Int := [1, 2, 3, 4, 5, 6, 7, 8, 9, 10, 11, 12, 13, 14, 15, 16, 17, 18, 19, 20, 21, 22, 24]
theorem one_all : ∀ n ∈ NS1, ∃ P S R, pts1 n = P ∧ ones n = P ∧ Pts n 2 P S R ∧ P[0]? = some [0, if n > 1 then 1 else 0] := by
  intro n hn
  simp only [NS1, List.mem_cons, List.not_mem_nil, or_false] at hn
  rcases hn with rfl | rfl | rfl | rfl | rfl | rfl | rfl | rfl | rfl | rfl | rfl | rfl | rfl | rfl | rfl | rfl | rfl | rfl | rfl | rfl | rfl | rfl | rfl
  · exact ⟨_, _, _, p1_1, o1_1, pts_mk nd1_1 s1_1 r1_1 c1_1, rfl⟩
  · exact ⟨_, _, _, p1_2, o1_2, pts_mk nd1_2 s1_2 r1_2 c1_2, rfl⟩
  · exact ⟨_, _, _, p1_3, o1_3, pts_mk nd1_3 s1_3 r1_3 c1_3, rfl⟩
  · exact ⟨_, _, _, p1_4, o1_4, pts_mk nd1_4 s1_4 r1_4 c1_4, rfl⟩
  · exact ⟨_, _, _, p1_5, o1_5, pts_mk nd1_5 s1_5 r1_5 c1_5, rfl⟩
  · exact ⟨_, _, _, p1_6, o1_6, pts_mk nd1_6 s1_6 r1_6 c1_6, rfl⟩
  · exact ⟨_, _, _, p1_7, o1_7, pts_mk nd1_7 s1_7 r1_7 c1_7, rfl⟩
  · exact ⟨_, _, _, p1_8, o1_8, pts_mk nd1_8 s1_8 r1_8 c1_8, rfl⟩
  · exact ⟨_, _, _, p1_9, o1_9, pts_mk nd1_9 s1_9 r1_9 c1_9, rfl⟩
  · exact ⟨_, _, _, p1_10, o1_10, pts_mk nd1_10 s1_10 r1_10 c1_10, rfl⟩
  · exact ⟨_, _, _, p1_11, o1_11, pts_mk nd1_11 s1_11 r1_11 c1_11, rfl⟩
  · exact ⟨_, _, _, p1_12, o1_12, pts_mk nd1_12 s1_12 r1_12 c1_12, rfl⟩
  · exact ⟨_, _, _, p1_13, o1_13, pts_mk nd1_13 s1_13 r1_13 c1_13, rfl⟩
  · exact ⟨_, _, _, p1_14, o1_14, pts_mk nd1_14 s1_14 r1_14 c1_14, rfl⟩
  · exact ⟨_, _, _, p1_15, o1_15, pts_mk nd1_15 s1_15 r1_15 c1_15, rfl⟩
  · exact ⟨_, _, _, p1_16, o1_16, pts_mk nd1_16 s1_16 r1_16 c1_16, rfl⟩
  · exact ⟨_, _, _, p1_17, o1_17, pts_mk nd1_17 s1_17 r1_17 c1_17, rfl⟩
  · exact ⟨_, _, _, p1_18, o1_18, pts_mk nd1_18 s1_18 r1_18 c1_18, rfl⟩
  · exact ⟨_, _, _, p1_19, o1_19, pts_mk nd1_19 s1_19 r1_19 c1_19, rfl⟩
  · exact ⟨_, _, _, p1_20, o1_20, pts_mk nd1_20 s1_20 r1_20 c1_20, rfl⟩
  · exact ⟨_, _, _, p1_21, o1_21, pts_mk nd1_21 s1_21 r1_21 c1_21, rfl⟩
  · exact ⟨_, _, _, p1_22, o1_22, pts_mk nd1_22 s1_22 r1_22 c1_22, rfl⟩
  · exact ⟨_, _, _, p1_24, o1_24, pts_mk nd1_24 s1_24 r1_24 c1_24, rfl⟩
def cnt2 (n : Int) (w : Nat) : Int := if n < 3 then w else 2 * w
def NS2 : List Int := [1, 2, 3, 4, 5, 6, 7, 8]
theorem two_all : ∀ n ∈ NS2, ∃ P S R oa ob, ord2 n = some oa ∧ ptsOf n oa = P ∧ ordL n = some ob ∧ ptsOf n ob = P ∧ Pts n 4 P S R := by
  intro n hn
  simp only [NS2, List.mem_cons, List.not_mem_nil, or_false] at hn
  rcases hn with rfl | rfl | rfl | rfl | rfl | rfl | rfl | rfl
  · exact ⟨_, _, _, _, _, oa_1, qa_1, ob_1, qb_1, pts_mk nd2_1 s2_1 r2_1 c2_1⟩
  · exact ⟨_, _, _, _, _, oa_2, qa_2, ob_2, qb_2, pts_mk nd2_2 s2_2 r2_2 c2_2⟩
  · exact ⟨_, _, _, _, _, oa_3, qa_3, ob_3, qb_3, pts_mk nd2_3 s2_3 r2_3 c2_3⟩
  · exact ⟨_, _, _, _, _, oa_4, qa_4, ob_4, qb_4, pts_mk nd2_4 s2_4 r2_4 c2_4⟩
  · exact ⟨_, _, _, _, _, oa_5, qa_5, ob_5, qb_5, pts_mk nd2_5 s2_5 r2_5 c2_5⟩
  · exact ⟨_, _, _, _, _, oa_6, qa_6, ob_6, qb_6, pts_mk nd2_6 s2_6 r2_6 c2_6⟩
  · exact ⟨_, _, _, _, _, oa_7, qa_7, ob_7, qb_7, pts_mk nd2_7 s2_7 r2_7 c2_7⟩
  · exact ⟨_, _, _, _, _, oa_8, qa_8, ob_8, qb_8, pts_mk nd2_8 s2_8 r2_8 c2_8⟩
end Cv
end Fh
namespace Fh
open PySem L2 PyProof.Rows
namespace Cv
def szW (n : Int) : Nat := ([1, 6, 12, 24, 60, 72, 168, 192][(n - 1).toNat]?).getD 0
theorem two_all2 : ∀ n ∈ NS2, ∃ P S R oa ob, ord2 n = some oa ∧ ptsOf n oa = P ∧ ordL n = some ob ∧ ptsOf n ob = P ∧ Pts n 4 P S R ∧ P.length = szW n := by
  intro n hn
  simp only [NS2, List.mem_cons, List.not_mem_nil, or_false] at hn
  rcases hn with rfl | rfl | rfl | rfl | rfl | rfl | rfl | rfl
  · exact ⟨_, _, _, _, _, oa_1, qa_1, ob_1, qb_1, pts_mk nd2_1 s2_1 r2_1 c2_1, by decide +kernel⟩
  · exact ⟨_, _, _, _, _, oa_2, qa_2, ob_2, qb_2, pts_mk nd2_2 s2_2 r2_2 c2_2, by decide +kernel⟩
  · exact ⟨_, _, _, _, _, oa_3, qa_3, ob_3, qb_3, pts_mk nd2_3 s2_3 r2_3 c2_3, by decide +kernel⟩
  · exact ⟨_, _, _, _, _, oa_4, qa_4, ob_4, qb_4, pts_mk nd2_4 s2_4 r2_4 c2_4, by decide +kernel⟩
  · exact ⟨_, _, _, _, _, oa_5, qa_5, ob_5, qb_5, pts_mk nd2_5 s2_5 r2_5 c2_5, by decide +kernel⟩
  · exact ⟨_, _, _, _, _, oa_6, qa_6, ob_6, qb_6, pts_mk nd2_6 s2_6 r2_6 c2_6, by decide +kernel⟩
  · exact ⟨_, _, _, _, _, oa_7, qa_7, ob_7, qb_7, pts_mk nd2_7 s2_7 r2_7 c2_7, by decide +kernel⟩
  · exact ⟨_, _, _, _, _, oa_8, qa_8, ob_8, qb_8, pts_mk nd2_8 s2_8 r2_8 c2_8, by decide +kernel⟩
end Cv
end Fh
namespace Fh
open PySem L2 PyProof.Rows
namespace Cv
theorem lexB_asym : ∀ x y : Q, lexB x y = true → lexB y x = false
  | [], [], h => by simp [lexB] at h
  | [], y :: ys, _ => by simp [lexB]
  | x :: xs, [], h => by simp [lexB] at h
  | x :: xs, y :: ys, h => by
    rw [lexB] at h ⊢
    by_cases e : x = y
    · subst e
      rw [if_pos rfl] at h ⊢
      exact lexB_asym xs ys h
    · rw [if_neg e, decide_eq_true_eq] at h
      rw [if_neg (fun z => e z.symm), decide_eq_false_iff_not]
      omega
theorem lexB_tri : ∀ x y : Q, x.length = y.length → lexB x y = false → lexB y x = false → x = y
  | [], [], _, _, _ => rfl
  | [], y :: ys, h, _, _ => by simp at h
  | x :: xs, [], h, _, _ => by simp at h
  | x :: xs, y :: ys, h, h1, h2 => by
    rw [lexB] at h1 h2
    by_cases e : x = y
    · subst e
      rw [if_pos rfl] at h1 h2
      rw [lexB_tri xs ys (by simpa using h) h1 h2]
    · rw [if_neg e, decide_eq_false_iff_not] at h1
      rw [if_neg (fun z => e z.symm), decide_eq_false_iff_not] at h2
      omega
theorem fm_iff {n x y : Int} (hn : 1 ≤ n) : x.fmod n = y.fmod n ↔ n ∣ x - y := by
  rw [Int.fmod_eq_emod_of_nonneg _ (by omega), Int.fmod_eq_emod_of_nonneg _ (by omega)]
  constructor
  · intro h
    exact Int.dvd_of_emod_eq_zero (Int.emod_eq_emod_iff_emod_sub_eq_zero.mp h)
  · intro h
    exact Int.emod_eq_emod_iff_emod_sub_eq_zero.mpr (Int.emod_eq_zero_of_dvd h)
theorem fm_self {n x : Int} (hn : 1 ≤ n) : n ∣ x.fmod n - x := by
  have := Int.mul_fdiv_add_fmod x n
  exact ⟨-(x.fdiv n), by rw [Int.mul_neg]; omega⟩
theorem fm_neg {n x : Int} (hn : 1 ≤ n) : (-(x.fmod n)).fmod n = (-x).fmod n := (fm_iff hn).mpr (by
  obtain ⟨u, hu⟩ := fm_self (x := x) hn
  exact ⟨-u, by rw [Int.mul_neg]; omega⟩)
theorem neg_mod {n : Int} (hn : 1 ≤ n) (q : Q) : negQ n (modQ n q) = negQ n q := by
  unfold negQ modQ
  rw [List.map_map]
  exact List.map_congr_left fun x _ => fm_neg hn
theorem mod_mod {n : Int} (hn : 1 ≤ n) (q : Q) : modQ n (modQ n q) = modQ n q := by
  unfold modQ
  rw [List.map_map]
  exact List.map_congr_left fun x _ => Int.fmod_fmod x n
theorem mod_neg {n : Int} (hn : 1 ≤ n) (q : Q) : modQ n (negQ n q) = negQ n q := by
  unfold negQ modQ
  rw [List.map_map]
  exact List.map_congr_left fun x _ => Int.fmod_fmod (-x) n
theorem neg_neg' {n : Int} (hn : 1 ≤ n) (q : Q) : negQ n (negQ n q) = modQ n q := by
  unfold negQ modQ
  rw [List.map_map]
  refine List.map_congr_left fun x _ => ?_
  show (-((-x).fmod n)).fmod n = x.fmod n
  rw [fm_neg hn, Int.neg_neg]
theorem tcl_or (n : Int) (q : Q) : tclL n q = modQ n q ∨ tclL n q = negQ n q := by
  unfold tclL
  split
  · exact .inr rfl
  · exact .inl rfl
theorem tcl_eqv {n : Int} (hn : 1 ≤ n) {q q' : Q} (h : modQ n q = modQ n q' ∨ modQ n q = negQ n q') : tclL n q = tclL n q' := by
  rcases h with h | h
  · have h2 : negQ n q = negQ n q' := by rw [← neg_mod hn q, h, neg_mod hn]
    unfold tclL
    rw [h, h2]
  · have h2 : negQ n q = modQ n q' := by rw [← neg_mod hn q, h, neg_neg' hn]
    have hl : (negQ n q').length = (modQ n q').length := by simp [negQ, modQ]
    unfold tclL
    rw [h, h2]
    cases h3 : lexB (modQ n q') (negQ n q') with
    | true => rw [lexB_asym _ _ h3]; rfl
    | false =>
      cases h4 : lexB (negQ n q') (modQ n q') with
      | true => rfl
      | false => exact lexB_tri _ _ hl h4 h3
theorem tcl_rep {n : Int} (hn : 1 ≤ n) (q : Q) : modQ n (tclL n q) = modQ n q ∨ modQ n (tclL n q) = negQ n q := by
  rcases tcl_or n q with h | h
  · rw [h]; exact .inl (mod_mod hn q)
  · rw [h]; exact .inr (mod_neg hn q)
theorem tcl_inj {n : Int} (hn : 1 ≤ n) {q q' : Q} (h : tclL n q = tclL n q') : modQ n q = modQ n q' ∨ modQ n q = negQ n q' := by
  rcases tcl_or n q with h1 | h1
  · rcases tcl_or n q' with h2 | h2
    · exact .inl (by rw [← h1, h, h2])
    · exact .inr (by rw [← h1, h, h2])
  · rcases tcl_or n q' with h2 | h2
    · exact .inr (by rw [← neg_neg' hn q, ← h1, h, h2, neg_mod hn])
    · exact .inl (by rw [← neg_neg' hn q, ← h1, h, h2, neg_neg' hn])
/-- linear in each entry -/
theorem mod_2 {n a b a' b' : Int} : modQ n [a, b] = modQ n [a', b'] ↔ a.fmod n = a'.fmod n ∧ b.fmod n = b'.fmod n := by simp [modQ]
theorem neg_2 {n a b a' b' : Int} : modQ n [a, b] = negQ n [a', b'] ↔ a.fmod n = (-a').fmod n ∧ b.fmod n = (-b').fmod n := by simp [modQ, negQ]
theorem mod_4 {n a b c d a' b' c' d' : Int} : modQ n [a, b, c, d] = modQ n [a', b', c', d'] ↔ a.fmod n = a'.fmod n ∧ b.fmod n = b'.fmod n ∧ c.fmod n = c'.fmod n ∧ d.fmod n = d'.fmod n := by simp [modQ]
theorem neg_4 {n a b c d a' b' c' d' : Int} : modQ n [a, b, c, d] = negQ n [a', b', c', d'] ↔ a.fmod n = (-a').fmod n ∧ b.fmod n = (-b').fmod n ∧ c.fmod n = (-c').fmod n ∧ d.fmod n = (-d').fmod n := by simp [modQ, negQ]
theorem dv_neg {n x y : Int} (h : n ∣ x - y) : n ∣ -x - -y := by
  obtain ⟨u, hu⟩ := h
  exact ⟨-u, by rw [Int.mul_neg]; omega⟩
theorem dv_sub {n x y z w : Int} (h : n ∣ x - y) (h2 : n ∣ z - w) : n ∣ (x - z) - (y - w) := by
  obtain ⟨u, hu⟩ := h
  obtain ⟨v, hv⟩ := h2
  exact ⟨u - v, by rw [Int.mul_sub]; omega⟩
/-- a step keeps classes -/
structure Lin (n : Int) (k : Nat) (f : Q → Q) : Prop where
  p : ∀ q q' : Q, q.length = k → q'.length = k → modQ n q = modQ n q' → modQ n (f q) = modQ n (f q')
  m : ∀ q q' : Q, q.length = k → q'.length = k → modQ n q = negQ n q' → modQ n (f q) = negQ n (f q')
theorem len2 {x : Q} (h : x.length = 2) : ∃ c d, x = [c, d] := by
  match x, h with
  | [c, d], _ => exact ⟨c, d, rfl⟩
theorem len4 {x : Q} (h : x.length = 4) : ∃ a b c d, x = [a, b, c, d] := by
  match x, h with
  | [a, b, c, d], _ => exact ⟨a, b, c, d, rfl⟩
theorem lin_S2 {n : Int} (hn : 1 ≤ n) : Lin n 2 stS := by
  constructor
  · intro q q' h h'
    obtain ⟨c, d, rfl⟩ := len2 h
    obtain ⟨c', d', rfl⟩ := len2 h'
    show _ → modQ n [d, -c] = modQ n [d', -c']
    simp only [mod_2, fm_iff hn]
    exact fun h => ⟨h.2, dv_neg h.1⟩
  · intro q q' h h'
    obtain ⟨c, d, rfl⟩ := len2 h
    obtain ⟨c', d', rfl⟩ := len2 h'
    show _ → modQ n [d, -c] = negQ n [d', -c']
    simp only [neg_2, fm_iff hn]
    exact fun h => ⟨h.2, dv_neg h.1⟩
theorem lin_R2 {n : Int} (hn : 1 ≤ n) : Lin n 2 stR := by
  constructor
  · intro q q' h h'
    obtain ⟨c, d, rfl⟩ := len2 h
    obtain ⟨c', d', rfl⟩ := len2 h'
    show _ → modQ n [d, d - c] = modQ n [d', d' - c']
    simp only [mod_2, fm_iff hn]
    exact fun h => ⟨h.2, dv_sub h.2 h.1⟩
  · intro q q' h h'
    obtain ⟨c, d, rfl⟩ := len2 h
    obtain ⟨c', d', rfl⟩ := len2 h'
    show _ → modQ n [d, d - c] = negQ n [d', d' - c']
    simp only [neg_2, fm_iff hn]
    refine fun h => ⟨h.2, ?_⟩
    have := dv_sub h.2 h.1
    rwa [show -d' - -c' = -(d' - c') by omega] at this
theorem lin_S4 {n : Int} (hn : 1 ≤ n) : Lin n 4 stS := by
  constructor
  · intro q q' h h'
    obtain ⟨a, b, c, d, rfl⟩ := len4 h
    obtain ⟨a', b', c', d', rfl⟩ := len4 h'
    show _ → modQ n [b, -a, d, -c] = modQ n [b', -a', d', -c']
    simp only [mod_4, fm_iff hn]
    exact fun ⟨h1, h2, h3, h4⟩ => ⟨h2, dv_neg h1, h4, dv_neg h3⟩
  · intro q q' h h'
    obtain ⟨a, b, c, d, rfl⟩ := len4 h
    obtain ⟨a', b', c', d', rfl⟩ := len4 h'
    show _ → modQ n [b, -a, d, -c] = negQ n [b', -a', d', -c']
    simp only [neg_4, fm_iff hn]
    exact fun ⟨h1, h2, h3, h4⟩ => ⟨h2, dv_neg h1, h4, dv_neg h3⟩
theorem lin_R4 {n : Int} (hn : 1 ≤ n) : Lin n 4 stR := by
  constructor
  · intro q q' h h'
    obtain ⟨a, b, c, d, rfl⟩ := len4 h
    obtain ⟨a', b', c', d', rfl⟩ := len4 h'
    show _ → modQ n [b, b - a, d, d - c] = modQ n [b', b' - a', d', d' - c']
    simp only [mod_4, fm_iff hn]
    exact fun ⟨h1, h2, h3, h4⟩ => ⟨h2, dv_sub h2 h1, h4, dv_sub h4 h3⟩
  · intro q q' h h'
    obtain ⟨a, b, c, d, rfl⟩ := len4 h
    obtain ⟨a', b', c', d', rfl⟩ := len4 h'
    show _ → modQ n [b, b - a, d, d - c] = negQ n [b', b' - a', d', d' - c']
    simp only [neg_4, fm_iff hn]
    refine fun ⟨h1, h2, h3, h4⟩ => ⟨h2, ?_, h4, ?_⟩
    · have := dv_sub h2 h1
      rwa [show -b' - -a' = -(b' - a') by omega] at this
    · have := dv_sub h4 h3
      rwa [show -d' - -c' = -(d' - c') by omega] at this
theorem tcl_len' (n : Int) (m : Q) : (tclL n m).length = m.length := by
  unfold tclL
  split <;> simp [negQ, modQ]
theorem tcl_step {n : Int} (hn : 1 ≤ n) {k : Nat} {f : Q → Q} (h : Lin n k f) {q : Q} (hq : q.length = k) : tclL n (f (tclL n q)) = tclL n (f q) :=
  tcl_eqv hn ((tcl_rep hn q).imp (h.p _ _ ((tcl_len' n q).trans hq) hq) (h.m _ _ ((tcl_len' n q).trans hq) hq))
/-! ### along words -/
def At (P : List Q) (i : Int) (x : Q) : Prop := 0 ≤ i ∧ P[i.toNat]? = some x
theorem At.lt {P : List Q} {i : Int} {x : Q} (h : At P i x) : i < P.length := by
  have := (List.getElem?_eq_some_iff.mp h.2).1
  have := h.1
  omega
theorem At.mem {P : List Q} {i : Int} {x : Q} (h : At P i x) : x ∈ P := List.mem_of_getElem? h.2
theorem at_prm {P : List Q} {f : Q → Q} {S : List Int} (hs : prm P f = S) (hm : ∀ x ∈ P, f x ∈ P) {i : Int} {x : Q} (h : At P i x) : At P (ixI S i) (f x) := by
  have e : ixI S i = (ixQ P (f x) : Int) := by
    unfold ixI
    rw [← hs]
    unfold prm
    rw [List.getElem?_map, h.2]
    rfl
  rw [e]
  exact ⟨by omega, by rw [Int.toNat_natCast]; exact ixQ_at (hm x h.mem)⟩
theorem at_uniq {P : List Q} (hn : P.Nodup) {i j : Int} {x : Q} (h : At P i x) (h2 : At P j x) : i = j := by
  have e1 := ixQ_of hn h.2
  have e2 := ixQ_of hn h2.2
  have := h.1
  have := h2.1
  omega
theorem tcl2_iff {n : Int} (hn : 1 ≤ n) {c d c' d' : Int} : tclL n [c, d] = tclL n [c', d'] ↔ (n ∣ c - c' ∧ n ∣ d - d') ∨ (n ∣ c + c' ∧ n ∣ d + d') := by
  constructor
  · intro h
    rcases tcl_inj hn h with h | h
    · rw [mod_2, fm_iff hn, fm_iff hn] at h
      exact .inl h
    · rw [neg_2, fm_iff hn, fm_iff hn, Int.sub_neg, Int.sub_neg] at h
      exact .inr h
  · rintro (h | h)
    · exact tcl_eqv hn (.inl (by rw [mod_2, fm_iff hn, fm_iff hn]; exact h))
    · exact tcl_eqv hn (.inr (by rw [neg_2, fm_iff hn, fm_iff hn, Int.sub_neg, Int.sub_neg]; exact h))
/-- in the group: by the bottom row, or by c and the diagonal -/
theorem in_iff {n : Int} (hn : 1 ≤ n) {a b c d : Int} (h : a * d - b * c = 1) : (tclL n [c, d] = tclL n [0, 1]) ↔ (c.fmod n = 0 ∧ tclL n [a, d] = tclL n [1, 1]) := by
  have hc : c.fmod n = 0 ↔ n ∣ c := by
    have := fm_iff (x := c) (y := 0) hn
    rw [Int.zero_fmod, Int.sub_zero] at this
    exact this
  rw [tcl2_iff hn, tcl2_iff hn, hc, Int.sub_zero, Int.add_zero]
  have ha : n ∣ c → ∀ e : Int, e * e = 1 → n ∣ d - e → n ∣ a - e := by
    rintro ⟨u, hu⟩ e he ⟨v, hv⟩
    have e1 : d = n * v + e := by omega
    have e2 : a * (n * v + e) - b * (n * u) = 1 := by rw [← e1, ← hu]; exact h
    refine ⟨e * (b * u - a * v), ?_⟩
    grind
  constructor
  · rintro (⟨h1, h2⟩ | ⟨h1, h2⟩)
    · exact ⟨h1, .inl ⟨ha h1 1 rfl h2, h2⟩⟩
    · exact ⟨h1, .inr ⟨by have := ha h1 (-1) rfl (by rwa [Int.sub_neg]); rwa [Int.sub_neg] at this, h2⟩⟩
  · rintro ⟨h1, ⟨_, h2⟩ | ⟨_, h2⟩⟩
    · exact .inl ⟨h1, h2⟩
    · exact .inr ⟨h1, h2⟩
end Cv
end Fh
namespace Fh.K38
open PySem L2 PyProof.Rows
def top (i : Nat) : Stmt := PySem.Challenge.pw_fareyhouse_k38_whole_gamma_one_and_gamma.main.body.getD i (.Pass ⟨0, 0, 0, 0⟩)
abbrev sState : Stmt := top 14
abbrev sDraw : Stmt := top 15
abbrev sLaw : Stmt := top 29
abbrev s_f_primes_of : Stmt := top 3
def f_primes_of_b0 : Ss :=
  (.cons (.ife (.ands (.cons (.cmp .eq (.bin .mod (.v 0) (.v 2)) (.int 0)) (.cons (.bi .all (.cons (.lc (.name 3) (.seq (.pk 1)) (.bl true) (.cmp .ne (.bin .mod (.v 2) (.v 3)) (.int 0))) .nil)) .nil))) 
    (.cons (.app 1 (.v 2)) .nil)
    .nil) .nil)
def f_primes_of : Ss :=
  (.cons (.own 1 (.lst .nil))
  (.cons (.fr (.name 2) (.rng2 (.int 2) (.bin .add (.v 0) (.int 1))) f_primes_of_b0)
  (.frz 1
  (.cons (.ret (.v 1)) .nil))))
abbrev s_f_count_classes : Stmt := top 4
def f_count_classes_b0 : Ss :=
  (.cons (.set 1 (.bin .mul (.bin .fdiv (.v 1) (.bin .mul (.v 2) (.v 2))) (.bin .sub (.bin .mul (.v 2) (.v 2)) (.int 1)))) .nil)
def f_count_classes : Ss :=
  (.cons (.set 1 (.bin .mul (.bin .mul (.v 0) (.v 0)) (.v 0)))
  (.cons (.fr (.name 2) (.seq (.call 1 (.cons (.v 0) .nil))) f_count_classes_b0)
  (.cons (.ret (.v 1)) .nil)))
abbrev s_f_class_of : Stmt := top 5
def f_class_of : Ss :=
  (.cons (.ret (.bi .tuple (.cons (.lc (.name 2) (.seq (.v 1)) (.bl true) (.bin .mod (.v 2) (.v 0))) .nil))) .nil)
abbrev s_f_turn_class : Stmt := top 6
def f_turn_class : Ss :=
  (.cons (.ret (.bi .min2 (.cons (.call 3 (.cons (.v 0) (.cons (.v 1) .nil))) (.cons (.bi .tuple (.cons (.lc (.name 2) (.seq (.v 1)) (.bl true) (.bin .mod (.neg (.v 2)) (.v 0))) .nil)) .nil)))) .nil)
abbrev s_f_cover_of : Stmt := top 7
def f_cover_of : Ss :=
  (.cons (.dcmp 3 2 (.cons (.name 4) (.cons (.name 5) .nil)) (.enum (.v 0)) (.bl true) (.v 5) (.v 4))
  (.cons (.ret (.tup (.cons (.bi .tuple (.cons (.lc (.name 5) (.seq (.v 1)) (.bl true) (.dgt 3 (.v 5))) .nil)) (.cons (.bi .tuple (.cons (.lc (.name 5) (.seq (.v 2)) (.bl true) (.dgt 3 (.v 5))) .nil)) .nil)))) .nil))
abbrev s_f_cover_of_4 : Stmt := top 7
def f_cover_of_4 : Ss :=
  (.cons (.dcmp 3 4 (.cons (.name 4) (.cons (.name 5) .nil)) (.enum (.v 0)) (.bl true) (.v 5) (.v 4))
  (.cons (.ret (.tup (.cons (.bi .tuple (.cons (.lc (.name 5) (.seq (.v 1)) (.bl true) (.dgt 3 (.v 5))) .nil)) (.cons (.bi .tuple (.cons (.lc (.name 5) (.seq (.v 2)) (.bl true) (.dgt 3 (.v 5))) .nil)) .nil)))) .nil))
abbrev s_f_up_to_sign : Stmt := top 8
def f_up_to_sign : Ss :=
  (.cons (.ret (.bi .min2 (.cons (.tup (.cons (.bin .mod (.v 1) (.v 0)) (.cons (.bin .mod (.v 2) (.v 0)) .nil))) (.cons (.tup (.cons (.bin .mod (.neg (.v 1)) (.v 0)) (.cons (.bin .mod (.neg (.v 2)) (.v 0)) .nil))) .nil)))) .nil)
abbrev s_f_cover_one : Stmt := top 9
def f_cover_one_b0 : Ss :=
  (.cons (.ife (.cmp .eq (.bi .gcd (.cons (.bi .gcd (.cons (.v 2) (.cons (.v 5) .nil))) (.cons (.v 0) .nil))) (.int 1)) 
    (.cons (.dst 1 (.call 7 (.cons (.v 0) (.cons (.v 2) (.cons (.v 5) .nil)))) (.bl true)) .nil)
    .nil) .nil)
def f_cover_one_b1 : Ss :=
  (.cons (.fr (.name 5) (.rng1 (.v 0)) f_cover_one_b0) .nil)
def f_cover_one : Ss :=
  (.cons (.dnew 1 2)
  (.cons (.fr (.name 2) (.rng1 (.v 0)) f_cover_one_b1)
  (.cons (.set 3 (.dks 1))
  (.cons (.set 4 (.lc (.cons (.name 2) (.cons (.name 5) .nil)) (.seq (.v 3)) (.bl true) (.call 7 (.cons (.v 0) (.cons (.v 5) (.cons (.neg (.v 2)) .nil))))))
  (.cons (.ret (.call 5 (.cons (.v 3) (.cons (.v 4) (.cons (.lc (.cons (.name 2) (.cons (.name 5) .nil)) (.seq (.v 3)) (.bl true) (.call 7 (.cons (.v 0) (.cons (.v 5) (.cons (.bin .sub (.v 5) (.v 2)) .nil))))) .nil))))) .nil)))))
abbrev s_f_step_s : Stmt := top 10
def f_step_s : Ss :=
  (.cons (.unp (.cons (.name 1) (.cons (.name 2) (.cons (.name 3) (.cons (.name 4) .nil)))) (.v 0))
  (.cons (.ret (.tup (.cons (.v 2) (.cons (.neg (.v 1)) (.cons (.v 4) (.cons (.neg (.v 3)) .nil)))))) .nil))
abbrev s_f_step_r : Stmt := top 11
def f_step_r : Ss :=
  (.cons (.unp (.cons (.name 1) (.cons (.name 2) (.cons (.name 3) (.cons (.name 4) .nil)))) (.v 0))
  (.cons (.ret (.tup (.cons (.v 2) (.cons (.bin .sub (.v 2) (.v 1)) (.cons (.v 4) (.cons (.bin .sub (.v 4) (.v 3)) .nil)))))) .nil))
abbrev s_f_cover_whole : Stmt := top 12
def f_cover_whole_b0 : Ss :=
  (.cons (.set 8 (.call 4 (.cons (.v 0) (.cons (.v 7) .nil))))
  (.cons (.ife (.din true 2 (.v 8)) 
    (.cons (.dst 2 (.v 8) (.bl true))
    (.cons (.app 3 (.v 8)) .nil))
    .nil) .nil))
def f_cover_whole_b1 : Ss :=
  (.cons (.fr (.name 7) (.seq (.tup (.cons (.call 9 (.cons (.ix (.pk 3) (.v 4)) .nil)) (.cons (.call 10 (.cons (.ix (.pk 3) (.v 4)) .nil)) .nil)))) f_cover_whole_b0)
  (.cons (.aug 4 .add (.int 1)) .nil))
def f_cover_whole : Ss :=
  (.cons (.set 1 (.call 4 (.cons (.v 0) (.cons (.con 0) .nil))))
  (.cons (.dd1 2 4 (.v 1) (.bl true))
  (.cons (.own 3 (.lst (.cons (.v 1) .nil)))
  (.cons (.set 4 (.int 0))
  (.cons (.whl (.cmp .lt (.v 4) (.bi .len (.cons (.pk 3) .nil))) f_cover_whole_b1)
  (.cons (.set 5 (.bin .add (.lst (.cons (.v 1) .nil)) (.lc (.name 9) (.seq (.dks 2)) (.cmp .ne (.v 9) (.v 1)) (.v 9))))
  (.cons (.set 6 (.lc (.name 9) (.seq (.v 5)) (.bl true) (.call 4 (.cons (.v 0) (.cons (.call 9 (.cons (.v 9) .nil)) .nil)))))
  (.cons (.ret (.call 6 (.cons (.v 5) (.cons (.v 6) (.cons (.lc (.name 9) (.seq (.v 5)) (.bl true) (.call 4 (.cons (.v 0) (.cons (.call 10 (.cons (.v 9) .nil)) .nil)))) .nil))))) .nil))))))))
abbrev s_f_law_pick : Stmt := top 16
def f_law_pick : Ss :=
  (.cons (.ret (.ix (.v 1) (.call 0 (.cons (.v 0) (.cons (.bi .len (.cons (.v 1) .nil)) .nil))))) .nil)
abbrev s_f_law_eq : Stmt := top 17
def f_law_eq : Ss :=
  (.cons (.ife (.ors (.cons (.bi .isList (.cons (.v 1) .nil)) (.cons (.bi .isTuple (.cons (.v 1) .nil)) .nil))) 
    (.cons (.ife (.ors (.cons (.cmp .ne (.bi .isList (.cons (.v 0) .nil)) (.bi .isList (.cons (.v 1) .nil))) (.cons (.cmp .ne (.bi .isTuple (.cons (.v 0) .nil)) (.bi .isTuple (.cons (.v 1) .nil))) .nil))) 
      (.cons (.ret (.bl false)) .nil)
      .nil)
    (.cons (.ife (.cmp .ne (.bi .len (.cons (.v 0) .nil)) (.bi .len (.cons (.v 1) .nil))) 
      (.cons (.ret (.bl false)) .nil)
      .nil)
    (.cons (.ret (.cmp .eq (.lc (.name 2) (.rng1 (.bi .len (.cons (.v 1) .nil))) (.nt (.call 13 (.cons (.ix (.v 0) (.v 2)) (.cons (.ix (.v 1) (.v 2)) .nil)))) (.v 2)) (.lst .nil))) .nil)))
    .nil)
  (.cons (.ife (.isN false (.v 1)) 
    (.cons (.ret (.isN false (.v 0))) .nil)
    .nil)
  (.cons (.ife (.bi .isStr (.cons (.v 1) .nil)) 
    (.cons (.ret (.ands (.cons (.bi .isStr (.cons (.v 0) .nil)) (.cons (.cmp .eq (.v 0) (.v 1)) .nil)))) .nil)
    .nil)
  (.cons (.ife (.bi .isBool (.cons (.v 1) .nil)) 
    (.cons (.ret (.ands (.cons (.bi .isBool (.cons (.v 0) .nil)) (.cons (.cmp .eq (.v 0) (.v 1)) .nil)))) .nil)
    .nil)
  (.cons (.ret (.ands (.cons (.bi .isInt (.cons (.v 0) .nil)) (.cons (.nt (.bi .isBool (.cons (.v 0) .nil))) (.cons (.cmp .eq (.v 0) (.v 1)) .nil))))) .nil)))))
abbrev s_f_law_gcd : Stmt := top 18
def f_law_gcd_b0 : Ss :=
  (.cons (.par2 0 1 (.v 1) (.bin .mod (.bi .int (.cons (.v 0) .nil)) (.v 1))) .nil)
def f_law_gcd : Ss :=
  (.cons (.par2 0 1 (.bi .abs (.cons (.v 0) .nil)) (.bi .abs (.cons (.v 1) .nil)))
  (.cons (.whl (.cmp .gt (.v 1) (.int 0)) f_law_gcd_b0)
  (.cons (.ret (.v 0)) .nil)))
abbrev s_f_law_mul : Stmt := top 19
def f_law_mul : Ss :=
  (.cons (.unp (.cons (.name 2) (.cons (.name 3) (.cons (.name 4) (.cons (.name 5) .nil)))) (.v 0))
  (.cons (.unp (.cons (.name 6) (.cons (.name 7) (.cons (.name 8) (.cons (.name 9) .nil)))) (.v 1))
  (.cons (.ret (.tup (.cons (.bin .add (.bin .mul (.v 2) (.v 6)) (.bin .mul (.v 3) (.v 8))) (.cons (.bin .add (.bin .mul (.v 2) (.v 7)) (.bin .mul (.v 3) (.v 9))) (.cons (.bin .add (.bin .mul (.v 4) (.v 6)) (.bin .mul (.v 5) (.v 8))) (.cons (.bin .add (.bin .mul (.v 4) (.v 7)) (.bin .mul (.v 5) (.v 9))) .nil)))))) .nil)))
abbrev s_f_law_class : Stmt := top 20
def f_law_class : Ss :=
  (.cons (.ret (.bi .tuple (.cons (.lc (.name 2) (.seq (.v 1)) (.bl true) (.bin .mod (.bi .int (.cons (.v 2) .nil)) (.v 0))) .nil))) .nil)
abbrev s_f_law_turn_class : Stmt := top 21
def f_law_turn_class : Ss :=
  (.cons (.ret (.bi .min2 (.cons (.call 16 (.cons (.v 0) (.cons (.v 1) .nil))) (.cons (.call 16 (.cons (.v 0) (.cons (.lc (.name 2) (.seq (.v 1)) (.bl true) (.neg (.v 2))) .nil))) .nil)))) .nil)
abbrev s_f_law_led : Stmt := top 22
def f_law_led_b0 : Ss :=
  (.cons (.ife (.cmp .eq (.v 3) (.str "s")) 
    (.cons (.set 1 (.ix (.ix (.v 0) (.int 0)) (.v 1))) .nil)
    (.cons (.set 1 (.ite (.cmp .eq (.v 3) (.str "r")) (.ix (.ix (.v 0) (.int 1)) (.v 1)) (.ix (.ix (.v 0) (.int 1)) (.ix (.ix (.v 0) (.int 1)) (.v 1))))) .nil)) .nil)
def f_law_led : Ss :=
  (.cons (.fr (.name 3) (.seq (.v 2)) f_law_led_b0)
  (.cons (.ret (.v 1)) .nil))
abbrev s_f_law_is_cover : Stmt := top 23
def f_law_is_cover_b0 : Ss :=
  (.cons (.ife (.ors (.cons (.nt (.bi .isTuple (.cons (.v 1) .nil))) (.cons (.cmp .ne (.bi .len (.cons (.v 1) .nil)) (.bi .len (.cons (.ix (.v 0) (.int 0)) .nil))) .nil))) 
    (.cons (.ret (.bl false)) .nil)
    .nil)
  (.cons (.ife (.cmp .ne (.lc (.name 6) (.seq (.v 1)) (.ors (.cons (.nt (.bi .isInt (.cons (.v 6) .nil))) (.cons (.bi .isBool (.cons (.v 6) .nil)) .nil))) (.v 6)) (.lst .nil)) 
    (.cons (.ret (.bl false)) .nil)
    .nil)
  (.cons (.ife (.ors (.cons (.cmp .ne (.bi .sorted (.cons (.v 1) .nil)) (.lr false (.bi .len (.cons (.v 1) .nil)))) (.cons (.cmp .eq (.bi .len (.cons (.v 1) .nil)) (.int 0)) .nil))) 
    (.cons (.ret (.bl false)) .nil)
    .nil) .nil)))
def f_law_is_cover_b1 : Ss :=
  (.cons (.ife (.din true 4 (.ix (.v 1) (.ix (.pk 3) (.v 5)))) 
    (.cons (.dst 4 (.ix (.v 1) (.ix (.pk 3) (.v 5))) (.bl true))
    (.cons (.app 3 (.ix (.v 1) (.ix (.pk 3) (.v 5)))) .nil))
    .nil) .nil)
def f_law_is_cover_b2 : Ss :=
  (.cons (.ife (.cmp .lt (.v 5) (.bi .len (.cons (.pk 3) .nil))) 
    (.cons (.fr (.name 1) (.seq (.v 0)) f_law_is_cover_b1) .nil)
    .nil) .nil)
def f_law_is_cover : Ss :=
  (.cons (.ife (.ors (.cons (.nt (.bi .isTuple (.cons (.v 0) .nil))) (.cons (.cmp .ne (.bi .len (.cons (.v 0) .nil)) (.int 2)) .nil))) 
    (.cons (.ret (.bl false)) .nil)
    .nil)
  (.cons (.fr (.name 1) (.seq (.v 0)) f_law_is_cover_b0)
  (.cons (.set 2 (.bi .len (.cons (.ix (.v 0) (.int 0)) .nil)))
  (.cons (.ife (.cmp .ne (.lc (.name 6) (.rng1 (.v 2)) (.ors (.cons (.cmp .ne (.call 18 (.cons (.v 0) (.cons (.v 6) (.cons (.str "ss") .nil)))) (.v 6)) (.cons (.cmp .ne (.call 18 (.cons (.v 0) (.cons (.v 6) (.cons (.str "rrr") .nil)))) (.v 6)) .nil))) (.v 6)) (.lst .nil)) 
    (.cons (.ret (.bl false)) .nil)
    .nil)
  (.cons (.own 3 (.lst (.cons (.int 0) .nil)))
  (.cons (.dd1 4 0 (.int 0) (.bl true))
  (.cons (.fr (.name 5) (.rng1 (.v 2)) f_law_is_cover_b2)
  (.cons (.ret (.cmp .eq (.bi .len (.cons (.pk 3) .nil)) (.v 2))) .nil))))))))
abbrev s_f_law_word : Stmt := top 24
def f_law_word : Ss :=
  (.cons (.ret (.me .join (.str "") (.cons (.lc (.name 2) (.rng1 (.v 1)) (.bl true) (.bin .add (.str "s") (.call 12 (.cons (.v 0) (.cons (.lst (.cons (.str "r") (.cons (.str "R") .nil))) .nil))))) .nil))) .nil)
abbrev s_f_law_of_word : Stmt := top 25
def f_law_of_word_b0 : Ss :=
  (.cons (.set 1 (.call 15 (.cons (.v 1) (.cons (.ite (.cmp .eq (.v 2) (.str "s")) (.tup (.cons (.int 0) (.cons (.neg (.int 1)) (.cons (.int 1) (.cons (.int 0) .nil))))) (.ite (.cmp .eq (.v 2) (.str "r")) (.tup (.cons (.int 0) (.cons (.neg (.int 1)) (.cons (.int 1) (.cons (.int 1) .nil))))) (.tup (.cons (.neg (.int 1)) (.cons (.neg (.int 1)) (.cons (.int 1) (.cons (.int 0) .nil))))))) .nil)))) .nil)
def f_law_of_word : Ss :=
  (.cons (.set 1 (.tup (.cons (.int 1) (.cons (.int 0) (.cons (.int 0) (.cons (.int 1) .nil))))))
  (.cons (.fr (.name 2) (.seq (.v 0)) f_law_of_word_b0)
  (.cons (.ret (.v 1)) .nil)))
abbrev s_f_law_pair : Stmt := top 26
def f_law_pair : Ss :=
  (.cons (.ret (.bi .min2 (.cons (.tup (.cons (.bin .mod (.bi .int (.cons (.v 1) .nil)) (.v 0)) (.cons (.bin .mod (.bi .int (.cons (.v 2) .nil)) (.v 0)) .nil))) (.cons (.tup (.cons (.bin .mod (.bi .int (.cons (.neg (.v 1)) .nil)) (.v 0)) (.cons (.bin .mod (.bi .int (.cons (.neg (.v 2)) .nil)) (.v 0)) .nil))) .nil)))) .nil)
abbrev s_f_law_ones : Stmt := top 27
def f_law_ones_b0 : Ss :=
  (.cons (.ife (.ands (.cons (.cmp .eq (.call 14 (.cons (.call 14 (.cons (.v 2) (.cons (.v 3) .nil))) (.cons (.v 0) .nil))) (.int 1)) (.cons (.cmp .eq (.call 22 (.cons (.v 0) (.cons (.v 2) (.cons (.v 3) .nil)))) (.tup (.cons (.v 2) (.cons (.v 3) .nil)))) .nil))) 
    (.cons (.app 1 (.tup (.cons (.v 2) (.cons (.v 3) .nil)))) .nil)
    .nil) .nil)
def f_law_ones_b1 : Ss :=
  (.cons (.fr (.name 3) (.rng1 (.v 0)) f_law_ones_b0) .nil)
def f_law_ones : Ss :=
  (.cons (.own 1 (.lst .nil))
  (.cons (.fr (.name 2) (.rng1 (.v 0)) f_law_ones_b1)
  (.frz 1
  (.cons (.ret (.v 1)) .nil))))
abbrev s_f_law_wholes : Stmt := top 28
def f_law_wholes_b0 : Ss :=
  (.cons (.set 6 (.call 17 (.cons (.v 0) (.cons (.call 15 (.cons (.ix (.pk 3) (.v 4)) (.cons (.v 5) .nil))) .nil))))
  (.cons (.ife (.din true 2 (.v 6)) 
    (.cons (.dst 2 (.v 6) (.bl true))
    (.cons (.app 3 (.v 6)) .nil))
    .nil) .nil))
def f_law_wholes_b1 : Ss :=
  (.cons (.fr (.name 5) (.seq (.lst (.cons (.tup (.cons (.int 0) (.cons (.neg (.int 1)) (.cons (.int 1) (.cons (.int 0) .nil))))) (.cons (.tup (.cons (.int 1) (.cons (.int 1) (.cons (.int 0) (.cons (.int 1) .nil))))) .nil)))) f_law_wholes_b0)
  (.cons (.set 4 (.bin .add (.v 4) (.int 1))) .nil))
def f_law_wholes : Ss :=
  (.cons (.set 1 (.call 17 (.cons (.v 0) (.cons (.tup (.cons (.int 1) (.cons (.int 0) (.cons (.int 0) (.cons (.int 1) .nil))))) .nil))))
  (.cons (.dd1 2 4 (.v 1) (.bl true))
  (.cons (.own 3 (.lst (.cons (.v 1) .nil)))
  (.cons (.set 4 (.int 0))
  (.cons (.whl (.cmp .lt (.v 4) (.bi .len (.cons (.pk 3) .nil))) f_law_wholes_b1)
  (.cons (.ret (.bin .add (.lst (.cons (.v 1) .nil)) (.lc (.name 7) (.seq (.bi .sorted (.cons (.pk 3) .nil))) (.cmp .ne (.v 7) (.v 1)) (.v 7)))) .nil))))))
def rest_b0 : Ss :=
  (.cons (.unp (.cons (.name 15) (.cons (.name 16) .nil)) (.ix (.v 3) (.v 5)))
  (.cons (.ife (.ors (.cons (.cmp .ne (.ix (.v 3) (.ix (.ix (.v 4) (.int 0)) (.v 5))) (.call 22 (.cons (.v 2) (.cons (.v 16) (.cons (.neg (.v 15)) .nil))))) (.cons (.cmp .ne (.ix (.v 3) (.ix (.ix (.v 4) (.int 1)) (.v 5))) (.call 22 (.cons (.v 2) (.cons (.v 16) (.cons (.bin .sub (.v 16) (.v 15)) .nil))))) .nil))) 
    (.cons (.ret (.bl false)) .nil)
    .nil) .nil))
def rest_b1 : Ss :=
  (.cons (.ife (.cmp .ne (.ix (.v 7) (.ix (.ix (.v 8) (.int 0)) (.v 5))) (.call 17 (.cons (.v 6) (.cons (.call 15 (.cons (.ix (.v 7) (.v 5)) (.cons (.tup (.cons (.int 0) (.cons (.neg (.int 1)) (.cons (.int 1) (.cons (.int 0) .nil))))) .nil))) .nil)))) 
    (.cons (.ret (.bl false)) .nil)
    .nil)
  (.cons (.ife (.cmp .ne (.ix (.v 7) (.ix (.ix (.v 8) (.int 1)) (.v 5))) (.call 17 (.cons (.v 6) (.cons (.call 15 (.cons (.ix (.v 7) (.v 5)) (.cons (.tup (.cons (.int 0) (.cons (.neg (.int 1)) (.cons (.int 1) (.cons (.int 1) .nil))))) .nil))) .nil)))) 
    (.cons (.ret (.bl false)) .nil)
    .nil) .nil))
def rest_b2 : Ss :=
  (.cons (.set 10 (.call 20 (.cons (.v 1) (.cons (.call 0 (.cons (.v 1) (.cons (.int 25) .nil))) .nil))))
  (.cons (.set 11 (.call 21 (.cons (.v 10) .nil)))
  (.cons (.set 12 (.call 18 (.cons (.v 4) (.cons (.int 0) (.cons (.v 10) .nil)))))
  (.cons (.ife (.cmp .ne (.ix (.v 3) (.v 12)) (.call 22 (.cons (.v 2) (.cons (.ix (.v 11) (.int 2)) (.cons (.ix (.v 11) (.int 3)) .nil))))) 
    (.cons (.ret (.bl false)) .nil)
    .nil)
  (.cons (.set 13 (.ands (.cons (.cmp .eq (.bin .mod (.bi .int (.cons (.ix (.v 11) (.int 2)) .nil)) (.v 2)) (.int 0)) (.cons (.cmp .inn (.call 22 (.cons (.v 2) (.cons (.ix (.v 11) (.int 0)) (.cons (.ix (.v 11) (.int 3)) .nil)))) (.lst (.cons (.call 22 (.cons (.v 2) (.cons (.int 1) (.cons (.int 1) .nil)))) .nil))) .nil))))
  (.cons (.ife (.cmp .ne (.cmp .eq (.v 12) (.int 0)) (.v 13)) 
    (.cons (.ret (.bl false)) .nil)
    .nil)
  (.cons (.set 14 (.ix (.v 7) (.call 18 (.cons (.v 8) (.cons (.int 0) (.cons (.v 10) .nil))))))
  (.cons (.ife (.ors (.cons (.cmp .ne (.v 14) (.call 17 (.cons (.v 6) (.cons (.v 11) .nil)))) (.cons (.nt (.call 13 (.cons (.call 4 (.cons (.v 6) (.cons (.v 11) .nil))) (.cons (.v 14) .nil)))) .nil))) 
    (.cons (.ret (.bl false)) .nil)
    .nil) .nil))))))))
def rest : Ss :=
  (.cons (.set 2 (.call 12 (.cons (.v 1) (.cons (.lst (.cons (.int 1) (.cons (.int 2) (.cons (.int 3) (.cons (.int 4) (.cons (.int 5) (.cons (.int 6) (.cons (.int 7) (.cons (.int 8) (.cons (.int 9) (.cons (.int 10) (.cons (.int 11) (.cons (.int 12) (.cons (.int 13) (.cons (.int 14) (.cons (.int 15) (.cons (.int 16) (.cons (.int 17) (.cons (.int 18) (.cons (.int 19) (.cons (.int 20) (.cons (.int 21) (.cons (.int 22) (.cons (.int 24) .nil)))))))))))))))))))))))) .nil))))
  (.cons (.set 3 (.call 23 (.cons (.v 2) .nil)))
  (.cons (.set 4 (.call 8 (.cons (.v 2) .nil)))
  (.cons (.ife (.ors (.cons (.nt (.call 19 (.cons (.v 4) .nil))) (.cons (.cmp .ne (.bi .len (.cons (.ix (.v 4) (.int 0)) .nil)) (.bi .len (.cons (.v 3) .nil))) (.cons (.cmp .ne (.ix (.v 3) (.int 0)) (.tup (.cons (.int 0) (.cons (.bi .int (.cons (.cmp .gt (.v 2) (.int 1)) .nil)) .nil)))) .nil)))) 
    (.cons (.ret (.bl false)) .nil)
    .nil)
  (.cons (.fr (.name 5) (.rng1 (.bi .len (.cons (.v 3) .nil))) rest_b0)
  (.cons (.set 6 (.bin .add (.int 1) (.call 0 (.cons (.v 1) (.cons (.int 8) .nil)))))
  (.cons (.set 7 (.call 24 (.cons (.v 6) .nil)))
  (.cons (.set 8 (.call 11 (.cons (.v 6) .nil)))
  (.cons (.ife (.ors (.cons (.nt (.call 19 (.cons (.v 8) .nil))) (.cons (.cmp .ne (.bi .len (.cons (.ix (.v 8) (.int 0)) .nil)) (.bi .len (.cons (.v 7) .nil))) .nil))) 
    (.cons (.ret (.bl false)) .nil)
    .nil)
  (.cons (.ife (.cmp .ne (.call 2 (.cons (.v 6) .nil)) (.ite (.cmp .lt (.v 6) (.int 3)) (.bi .len (.cons (.v 7) .nil)) (.bin .mul (.int 2) (.bi .len (.cons (.v 7) .nil))))) 
    (.cons (.ret (.bl false)) .nil)
    .nil)
  (.cons (.fr (.name 5) (.rng1 (.bi .len (.cons (.v 7) .nil))) rest_b1)
  (.cons (.fr (.name 9) (.rng1 (.int 8)) rest_b2)
  (.cons (.ret (.bl true)) .nil)))))))))))))
abbrev lawN : List Str := ["script", "state", "n", "rows", "cover", "at", "small", "wholes", "whole", "turn", "word", "matrix", "goal", "inside", "told", "c", "d"]
def tb : Tb := ⟨["_law_draw", "primes_of", "count_classes", "class_of", "turn_class", "cover_of", "cover_of", "up_to_sign", "cover_one", "step_s", "step_r", "cover_whole", "_law_pick", "_law_eq", "_law_gcd", "_law_mul", "_law_class", "_law_turn_class", "_law_led", "_law_is_cover", "_law_word", "_law_of_word", "_law_pair", "_law_ones", "_law_wholes"], ["ONE"], ["abs", "all", "bool", "enumerate", "int", "isinstance", "len", "list", "min", "range", "sorted", "str", "tuple"], [("gcd", "math.gcd")], [], false, false, 2004⟩
abbrev cons : List PD := [conD [.int 1, .int 0, .int 0, .int 1]]
abbrev defs1 : List (Df TA') := [.code 4 1 f_primes_of, .code 3 1 f_count_classes, .code 3 2 f_class_of, .code 3 2 f_turn_class, .code 6 3 f_cover_of, .code 6 3 f_cover_of_4, .code 3 3 f_up_to_sign, .code 6 1 f_cover_one, .code 5 1 f_step_s, .code 5 1 f_step_r, .code 10 1 f_cover_whole, .code 2 2 f_law_pick, .code 3 2 f_law_eq, .code 2 2 f_law_gcd, .code 10 2 f_law_mul, .code 3 2 f_law_class, .code 3 2 f_law_turn_class, .code 4 3 f_law_led, .code 7 1 f_law_is_cover, .code 3 2 f_law_word, .code 3 1 f_law_of_word, .code 3 3 f_law_pair, .code 4 1 f_law_ones, .code 8 1 f_law_wholes]
abbrev defs : List (Df TA') := .prim drawQ :: defs1
abbrev Nd : List Str := ["state", "many", "cells", "value", "mixed"]
abbrev L1 : List (Str × DefT) := [("primes_of", ⟨s_f_primes_of, ["n", "told", "p", "q"], ["n"], false⟩),
  ("count_classes", ⟨s_f_count_classes, ["n", "told", "p"], ["n"], false⟩),
  ("class_of", ⟨s_f_class_of, ["n", "matrix", "entry"], ["n", "matrix"], false⟩),
  ("turn_class", ⟨s_f_turn_class, ["n", "matrix", "entry"], ["n", "matrix"], false⟩),
  ("cover_of", ⟨s_f_cover_of, ["points", "first", "second", "number", "at", "point"], ["points", "first", "second"], false⟩),
  ("cover_of", ⟨s_f_cover_of_4, ["points", "first", "second", "number", "at", "point"], ["points", "first", "second"], false⟩),
  ("up_to_sign", ⟨s_f_up_to_sign, ["n", "c", "d"], ["n", "c", "d"], false⟩),
  ("cover_one", ⟨s_f_cover_one, ["n", "found", "c", "points", "first", "d"], ["n"], false⟩),
  ("step_s", ⟨s_f_step_s, ["row", "a", "b", "c", "d"], ["row"], false⟩),
  ("step_r", ⟨s_f_step_r, ["row", "a", "b", "c", "d"], ["row"], false⟩),
  ("cover_whole", ⟨s_f_cover_whole, ["n", "first", "found", "order", "at", "points", "behind", "row", "told", "point"], ["n"], false⟩),
  ("_law_pick", ⟨s_f_law_pick, ["state", "row"], ["state", "row"], false⟩),
  ("_law_eq", ⟨s_f_law_eq, ["told", "due", "k"], ["told", "due"], false⟩),
  ("_law_gcd", ⟨s_f_law_gcd, ["a", "b"], ["a", "b"], false⟩),
  ("_law_mul", ⟨s_f_law_mul, ["one", "other", "a", "b", "c", "d", "e", "f", "g", "h"], ["one", "other"], false⟩),
  ("_law_class", ⟨s_f_law_class, ["n", "matrix", "x"], ["n", "matrix"], false⟩),
  ("_law_turn_class", ⟨s_f_law_turn_class, ["n", "matrix", "x"], ["n", "matrix"], false⟩),
  ("_law_led", ⟨s_f_law_led, ["cover", "coset", "word", "letter"], ["cover", "coset", "word"], false⟩),
  ("_law_is_cover", ⟨s_f_law_is_cover, ["cover", "perm", "size", "seen", "have", "at", "x"], ["cover"], false⟩),
  ("_law_word", ⟨s_f_law_word, ["state", "many", "k"], ["state", "many"], false⟩),
  ("_law_of_word", ⟨s_f_law_of_word, ["word", "told", "letter"], ["word"], false⟩),
  ("_law_pair", ⟨s_f_law_pair, ["n", "c", "d"], ["n", "c", "d"], false⟩),
  ("_law_ones", ⟨s_f_law_ones, ["n", "found", "c", "d"], ["n"], false⟩),
  ("_law_wholes", ⟨s_f_law_wholes, ["n", "first", "found", "row", "at", "step", "after", "one"], ["n"], false⟩)]
abbrev L : List (Str × DefT) := (("_law_draw" : Str), ⟨sDraw, Nd, ["state", "many"], false⟩) :: L1
abbrev dcts : List (List (Str × PD)) := []
abbrev pg : Pg TA' := ⟨defs, cons, dcts⟩
abbrev Ns : List Str := ["script", "seed", "cell"]
theorem scD : FnScope Nd ["state", "many"] (defScope sDraw) := ⟨rfl, rfl, rfl, by decide +kernel, rfl, by decide +kernel, by decide +kernel⟩
theorem scS : FnScope Ns ["script"] (defScope sState) := ⟨rfl, rfl, rfl, by decide +kernel, rfl, by decide +kernel, by decide +kernel⟩
section
variable {P : Program} {w : World} {K : PySem.W.Frag} {mg : Str → Option Value} {base : Heap} {f : Addr} {fd : FuncData}
theorem ok_draw {kl : Nat} {T : List Addr} {a b : Addr} {n : Nat} (F : Fun K "_law_draw" "_law_draw" sDraw f fd) (ml : mg "len" = none) (mi : mg "int" = none) :
    FnOk P w K mg base CX0 (n + 1) f fd ["state", "many"] (spOf (tkA kl T a b) K drawQ 2) := by
  refine F.ok scD (fun vs H Q E h => h.1) (fun cdv A outer s H vs Q E hr h => ?_)
  refine ⟨_, pss_cons (ps_set (i := 2) scD.nd rfl (.inl rfl) (pe_ix ix_list (pv 0) pe_int (fun _ _ => rfl)))
    (pss_cons (ps_while PassesOwn.never (PW.pt (pw_and (pt_cmpR op_gt (pe_callB call_len_seq (by rfl) ml PySem.boot_len (pa_cons (pv 2) pa_nil)) pe_int (nomark _)) (pw_and1 (pt_cmpR op_eq (pe_ix ix_list (pv 2) pe_int (fun _ _ => rfl)) pe_int (nomark _)))))
      (pss_one (ps_expr (pe_bm PySem.F.plainAttrs_list PySem.F.slot_list_pop PySem.F.type_list_pop mt_popAt (pv 2) (pa_cons pe_int pa_nil)))))
    (pss_cons (ps_if (pt_cmpR op_gt (pe_callB call_len_seq (by rfl) ml PySem.boot_len (pa_cons (pv 2) pa_nil)) pe_int (nomark _))
      (pss_cons (ps_set (i := 3) scD.nd rfl (.inl rfl) (pe_ix ix_list (pv 2) pe_int (fun _ _ => rfl)))
        (pss_cons (ps_asg (pe_op op_fdivX (pv 3) (pv 1)) (pg_sub (pv 2) pe_int set_list))
        (pss_one (ps_ret (pe_op op_modN (pe_callTy call_int1 (by rfl) mi (by rfl) (pa_cons (pv 3) pa_nil)) (pv 1)))))) pss_nil)
    (pss_cons (ps_set (i := 4) scD.nd rfl (.inl rfl) (pe_op op_modN (pe_callTy call_int1 (by rfl) mi (by rfl) (pa_cons (pe_op op_add (pe_op op_mulW (pe_ix ix_list (pv 0) pe_int (fun _ _ => rfl)) pe_int) pe_int) pa_nil)) pe_int))
    (pss_cons (ps_asg (pv 4) (pg_sub (pv 0) pe_int set_list))
    (pss_one (ps_ret (pe_op op_modN (pe_callTy call_int1 (by rfl) mi (by rfl) (pa_cons (pe_op op_fdivX (pv 4) pe_int) pa_nil)) (pv 1)))))))), ?_⟩
  obtain ⟨hl, F0, ds, τ, d, τ', ra, gd, e, q⟩ := h
  match ra, hl with
  | .cons (v := v1) (d := d1) r1 (.cons (v := v2) (d := d2) r2 .nil), _ => ?_
  unfold drawQ at e
  split at e
  case h_2 => cases e
  rename_i τ0 ds1 τ1 m e1
  cases e1
  split at e
  case isFalse => cases e
  rename_i hm
  cases e
  cases r1
  cases r2
  obtain ⟨hm0, hm1⟩ := hm
  obtain ⟨⟨cells, seed⟩, good⟩ := τ0
  obtain ⟨⟨hab, ha, hb, hs0, hs1⟩, hT⟩ := gd.ok
  simp only at ha hb hs0 hs1
  have upd_le : ∀ {H1 : Hp} {c : Addr} {xs : List V} {o : HO}, (c = a ∨ c = b) → H1 c = some (.lst xs) → Le (tkA kl T a b).Z F0 H1 F0 (upd H1 c o) := fun {H1 c xs o} hc h1 => by
    refine ⟨fun _ h => h, fun x o' hx nz => ?_, fun _ h => .inl h, fun x hx => ?_⟩
    · rw [upd_ne (fun z => nz (by subst z; exact hc.elim .inl fun q => .inr (.inl q)))]; exact hx
    · by_cases z : x = c
      · subst z; rw [upd_same]; intro y; cases y
      · rw [upd_ne z]; exact hx
  have nT : ∀ c ∈ T, c ≠ a ∧ c ≠ b := fun c hc => by
    obtain ⟨ps, e, _⟩ := hT c hc
    exact ⟨fun z => (by rw [z, ha] at e; cases e), fun z => (by rw [z, hb] at e; cases e)⟩
  have keepT : ∀ {H1 : Hp} {c : Addr} {o : HO}, (c = a ∨ c = b) → (∀ d ∈ T, H1 d = H d) → ∀ d ∈ T, upd H1 c o d = H d := fun {H1 c o} hc h1 d hd => by
    rw [upd_ne (fun z => by subst z; exact hc.elim (nT _ hd).1 (nT _ hd).2)]
    exact h1 d hd
  have tabT : ∀ {H1 : Hp}, (∀ d ∈ T, H1 d = H d) → ∀ d ∈ T, GxR.TabG H1 d := fun {H1} h1 d hd => by
    obtain ⟨ps, e, t⟩ := hT d hd
    exact ⟨ps, (h1 d hd).trans e, t⟩
  have gdW : ∀ {H1 : Hp} {τ1 : TA'}, Le (tkA kl T a b).Z F0 H F0 H1 → (tkA kl T a b).ok τ1 H1 → Gd (tkA kl T a b) τ1 F0 H1 := fun l o => ⟨o, fun x hx => ⟨(gd.fz x hx).1, l.there x (gd.fz x hx).2⟩⟩
  -- cells = state[0]
  refine ⟨_, rfl, a, _, 0, .ref b, rfl, rfl, .inl (.inl ha), rfl, ?_⟩
  -- the zeros in front
  refine while_by (fun σ1 H1 => σ1 = [some (.ref a), some (.int m), some (.ref b), none, none] ∧ ∃ cs, H1 a = some (.lst [.ref b, .int seed]) ∧ H1 b = some (.lst (cs.map V.int)) ∧ drop0 cs = drop0 cells ∧ Le (tkA kl T a b).Z F0 H F0 H1 ∧ ∀ d ∈ T, H1 d = H d)
    (fun σ1 H1 => match H1 b with | some (.lst xs) => xs.length | _ => 0) ⟨rfl, cells, ha, hb, rfl, .refl _ _ _, fun _ _ => rfl⟩ ?_ ?_
  · rintro σ1 H1 ⟨rfl, cs, ha1, hb1, hd, l1, k1⟩
    have hB : SqL K H1 b (cs.map V.int) := .inl (.inl hb1)
    refine ⟨_, rfl, b, _, rfl, .inl hB, _, _, rfl, rfl, _, rfl, ?_⟩
    cases cs with
    | nil =>
      refine ifF rfl (ifF rfl ?_)
      refine ⟨_, rfl, b, _, rfl, .inl hB, _, _, rfl, rfl, _, rfl, ifF rfl ?_⟩
      rw [show drop0 [] = [] from rfl] at hd
      have mul : CMulW seed 48271 := by
        unfold CMulW
        have h1 : seed.natAbs < 2 ^ 32 := by omega
        have h2 : seed.natAbs.log2 < 32 := by
          by_cases z : seed.natAbs = 0
          · rw [z]; decide
          · exact (Nat.log2_lt z).mpr h1
        have h3 : (48271 : Int).natAbs.log2 = 15 := by decide +kernel
        omega
      refine ⟨_, rfl, a, _, 1, .int seed, rfl, rfl, .inl (.inl ha1), rfl, _, _, rfl, rfl, mul, _, _, rfl, rfl, .inl ⟨_, rfl, _, _, rfl, rfl, (by show (2147483647:Int) ≠ 0; decide), ?_⟩⟩
      refine ⟨_, rfl, _, rfl, a, _, 1, 1, rfl, rfl, ha1, rfl, ?_⟩
      refine ⟨_, rfl, _, _, rfl, rfl, (by show (64:Int) ≠ 0 ∧ (64:Int).natAbs.log2 < 9000; decide +kernel), .inl ⟨_, rfl, _, rfl, _, _, rfl, rfl, (by omega), ?_⟩⟩
      have hm0 : 0 ≤ (seed * 48271 + 12345).fmod 2147483647 := Int.fmod_nonneg_of_pos _ (by decide)
      have hm9 : (seed * 48271 + 12345).fmod 2147483647 < 2147483647 := Int.fmod_lt_of_pos _ (by decide)
      have l2 := l1.trans (upd_le (.inl rfl) ha1 (o := .lst [.ref b, .int ((seed * 48271 + 12345).fmod 2147483647)]))
      have ed : drawA m (cells, seed) = (((((seed * 48271 + 12345).fmod 2147483647).fdiv 64).fmod m), ([], (seed * 48271 + 12345).fmod 2147483647)) := by
        unfold drawA
        rw [← hd]
      refine q _ F0 _ l2 (gdW l2 ⟨⟨hab, ?_, ?_, ?_, ?_⟩, tabT (keepT (.inl rfl) k1)⟩) ?_
      · show _ = some (HO.lst [V.ref b, V.int (drawA m (cells, seed)).2.2]); rw [ed]; exact upd_same
      · show _ = some (HO.lst ((drawA m (cells, seed)).2.1.map V.int)); rw [upd_ne hab.symm, hb1, ed]
      · show 0 ≤ (drawA m (cells, seed)).2.2; rw [ed]; exact hm0
      · show (drawA m (cells, seed)).2.2 < 2 ^ 32; rw [ed]; exact Int.lt_trans hm9 (by decide)
      · show Rp _ _ _ _ _ (PyData.int (drawA m (cells, seed)).1); rw [ed]; exact .int _
    | cons c cs => 
      have len1 : decide ((0:Int) < (((c :: cs).map V.int).length : Int)) = true := decide_eq_true (by rw [List.length_map, List.length_cons]; omega)
      refine ifT len1 ?_
      refine ⟨_, rfl, b, _, 0, .int c, rfl, rfl, hB, atI_zero, rfl, _, rfl, ?_⟩
      by_cases hc : c = 0
      · subst hc
        refine ifT (by decide) ?_
        refine ⟨_, rfl, .inl ⟨rfl, _, hB⟩, _, _, 0, 0, .int 0, rfl, rfl, hb1, (by decide), (by decide), seqIx_zero, rfl, ?_⟩
        refine ⟨⟨rfl, cs, ?_, upd_same, ?_, ?_, keepT (.inr rfl) k1⟩, ?_⟩
        · rw [upd_ne hab]; exact ha1
        · rw [← hd]; rfl
        · exact l1.trans (upd_le (.inr rfl) hb1)
        · rw [upd_same, hb1]
          simp
      · refine ifF (decide_eq_false fun z => hc (V.int.inj z)) ?_
        refine ⟨_, rfl, b, _, rfl, .inl hB, _, _, rfl, rfl, _, rfl, ?_⟩
        refine ifT len1 ?_
        have hd' : drop0 cells = c :: cs := by rw [← hd]; exact if_neg hc
        have ed : drawA m (cells, seed) = (c.fmod m, (c.fdiv m :: cs, seed)) := by
          unfold drawA
          rw [hd']
        refine ⟨_, rfl, b, _, 0, .int c, rfl, rfl, hB, atI_zero, ?_⟩
        refine ⟨_, rfl, _, rfl, _, _, rfl, rfl, ⟨by omega, hm1⟩, ?_⟩
        refine ⟨_, rfl, b, _, 0, 0, rfl, rfl, hb1, ixN_zero, ?_⟩
        refine ⟨_, rfl, .inl ⟨_, rfl, _, rfl, _, _, rfl, rfl, (by omega), ?_⟩⟩
        have l2 := l1.trans (upd_le (.inr rfl) hb1 (o := .lst ((c.fdiv m :: cs).map V.int)))
        refine q _ F0 _ l2 (gdW l2 ⟨⟨hab, ?_, ?_, ?_⟩, tabT (keepT (.inr rfl) k1)⟩) ?_
        · show _ = some (HO.lst [V.ref b, V.int (drawA m (cells, seed)).2.2]); rw [upd_ne hab, ha1, ed]
        · show _ = some (HO.lst ((drawA m (cells, seed)).2.1.map V.int)); rw [ed]; exact upd_same
        · show 0 ≤ (drawA m (cells, seed)).2.2 ∧ (drawA m (cells, seed)).2.2 < 2 ^ 32; rw [ed]; exact ⟨hs0, hs1⟩
        · show Rp _ _ _ _ _ (PyData.int (drawA m (cells, seed)).1); rw [ed]; exact .int _
  · rintro σ1 H1 Q1 Q2 hq
    rintro ⟨v1, e1, b2, ys, e2, e3, i, j, e4, e5, k1, e6, h⟩
    refine ⟨v1, e1, b2, ys, e2, e3, i, j, e4, e5, k1, e6, ?_⟩
    split at h
    · rename_i hk
      rw [if_pos hk]
      obtain ⟨v3, e7, p1, xs1, i1, z1, e8, e9, e10, e11, s1, k2, e12, h⟩ := h
      exact ⟨v3, e7, p1, xs1, i1, z1, e8, e9, e10, e11, s1, k2, e12, hq _ _ h⟩
    · rename_i hk
      rw [if_neg hk]
      exact hq _ _ h
theorem ok_state {T : List Addr} {n : Nat} (F : Fun K "_law_state" "_law_state" sState f fd) (mi : mg "int" = none) (ma : mg "abs" = none) :
    FnOk P w K mg base CX0 (n + 1) f fd ["script"] (spState T K) := by
  refine F.ok scS (fun vs H Q E h => by obtain ⟨a, ns, rfl, _⟩ := h; rfl) (fun cdv A outer s H vs Q E hr h => ?_)
  obtain ⟨p, ns, rfl, hS, h63, hT, q⟩ := h
  have G : GOk tk0 stG stTb n (cxOf CX0 P w K mg base Ns "_law_state" (defScope sState) f cdv A outer s H E).nox :=
    ⟨rfl, scS.nd, hr, (fun j x h => by cases h), (fun j x h => by cases h), (fun x hx => by
      simp only [stTb, List.mem_cons, List.not_mem_nil, or_false] at hx
      exact hx.elim (fun z => by rw [z]; exact mi) (fun z => by rw [z]; exact ma)), (fun x hx => by cases hx), (fun j x h => by cases h), (fun z => by cases z), (fun z => by cases z), rfl⟩
  have C : CXt tk0 stG stTb n Ns none (defScope sState) (cxOf CX0 P w K mg base Ns "_law_state" (defScope sState) f cdv A outer s H E).nox := ⟨G, rfl, rfl, rfl⟩
  have S1 : SS tk0 stG _ (stmtAt sState 0) (.set 1 (.int 7)) := sndS (tb := stTb) (N := Ns) _ (defScope sState) (stmtAt sState 0) _ (by decide +kernel) C scS.kind PassesOwn.never
  have S2 : SS tk0 stG _ (stmtAt sState 1) stFor := sndS (tb := stTb) (N := Ns) stFor (defScope sState) (stmtAt sState 1) _ (by decide +kernel) C scS.kind PassesOwn.never
  obtain ⟨t1, p1, r1⟩ := S1.ex
  obtain ⟨t2, p2, r2⟩ := S2.ex
  obtain ⟨tl, pl, _, _, rl⟩ := (sndE (tb := stTb) (N := Ns) (k := tk0) (g := stG) (lv := n) stAbs none (defScope sState) (match stmtAt sState 2 with | .Return (some (.List (e :: _) _)) _ => e | _ => .Constant .none 0 ⟨0,0,0,0⟩) _ (by decide +kernel) C).1.ex
  refine ⟨_, pss_cons p1 (pss_cons p2 (pss_one (ps_ret (pe_lst (pa_cons pl (pa_cons (pe_op op_add (pv 1) pe_int) pa_nil)))))), ?_⟩
  obtain ⟨F0, L0⟩ : ∃ F0 : Fz, Lk K F0 H p (ns.map V.int) ∧ ∀ a, F0 a → H a ≠ none := by
    rcases hS with (h | h) | h
    · exact ⟨fun a => a = p, .inl ⟨rfl, h⟩, fun a e => by subst e; rw [h]; exact fun z => nomatch z⟩
    · exact ⟨fun _ => False, .inr (.inl h), fun a e => e.elim⟩
    · exact ⟨fun _ => False, .inr (.inr (.inr h)), fun a e => e.elim⟩
  obtain ⟨Lp, L0⟩ := L0
  have g0 : Gd tk0 () F0 H := ⟨trivial, fun a h => ⟨fun z => z, L0 a h⟩⟩
  have ok0 : Okk tk0 K H ([PyData.list (ns.map .int)].map (fun d => some (Sl.sh d)) ++ List.replicate (3 - [PyData.list (ns.map .int)].length) none) (L2.start Ns [.ref p]) F0 H :=
    start_ok (X := (cxOf CX0 P w K mg base Ns "_law_state" (defScope sState) f cdv A outer s H E).nox) (.cons (.lst Lp of_ints) .nil) rfl (by show 1 ≤ 3; decide)
  obtain ⟨s', x', e0, e1, e2⟩ := st_loop ns (.list (ns.map .int)) 7 none (by decide) (by decide)
  refine r1 H F0 _ () _ F0 H _ _ ok0 (.refl _ _ _) g0 rfl ?_
  intro σ1 F1 H1 ok1 l1 lw1 g1
  refine r2 H F0 _ () σ1 F1 H1 (.nx [some (.sh (.list (ns.map .int))), some (.sh (.int s')), x'] ()) _ ok1 l1 g1 e2 ?_
  intro σ2 F2 H2 ok2 l2 lw2 g2
  have hl : okLen ns.length = true := by
    unfold okLen
    exact decide_eq_true (Nat.le_of_lt (small1000 (by omega)))
  refine rl rfl H [some (.sh (.list (ns.map .int))), some (.sh (.int s')), x'] () σ2 F2 H2 (.list ((ns.map fun i => if i < 0 then -i else i).map PyData.int)) () _ ok2 g2 ?_ ?_
  · show (if okLen (ns.map PyData.int).length then (lcLoop (stF [some (.sh (.list (ns.map .int))), some (.sh (.int s')), x']) (ns.map .int) ()).map fun r => (PyData.list r.1, r.2) else none) = _
    rw [List.length_map, if_pos hl, st_abs]
    rfl
  · intro v F3 H3 l3 g3 fr
    obtain ⟨b, xs, rfl, hn, hf, hb, ra⟩ := fr
    cases ints_of ra
    obtain ⟨v2, e3, r3⟩ := (ok2.le g2 l3).sl 1 _ rfl
    cases r3
    refine ⟨_, e3, s', 1, rfl, rfl, (by show 2 ≤ sizeLine; decide), fun a ha => ?_⟩
    have nab : a ≠ b := fun z => by subst z; rw [hb] at ha; cases ha
    refine q a b _ ⟨(ns.map (fun i => if i < 0 then -i else i), s' + 1), ⟨fun c hc => ?_, fun c hc => ?_, (by rw [List.length_map]; exact h63.1), (by show 0 ≤ s' + 1; omega), (by show s' + 1 < 2147483647; omega), (by show s' + 1 ≠ 934936168; omega)⟩⟩ ⟨⟨nab, upd_same, ?_, ?_, ?_⟩, fun c hc => ?_⟩
    · obtain ⟨i, _, rfl⟩ := List.mem_map.mp hc
      split <;> omega
    · obtain ⟨i, hi, rfl⟩ := List.mem_map.mp hc
      exact intBits_mono (by split <;> omega) (h63.2 i hi)
    · rw [upd_ne nab.symm]; exact hb
    · show 0 ≤ s' + 1; omega
    · show s' + 1 < 2 ^ 32; omega
    · obtain ⟨ps, e, t⟩ := hT c hc
      have e3 := l3.keep c _ (l2.keep c _ e fun z => z) fun z => z
      exact ⟨ps, by rw [upd_ne (fun z => by subst z; rw [ha] at e3; cases e3)]; exact e3, t⟩
end

theorem allC : AllC tb defs L := ⟨trivial, ⟨by decide +kernel, ⟨rfl, rfl, rfl, by decide +kernel, rfl, by decide +kernel, by decide +kernel⟩⟩, ⟨by decide +kernel, ⟨rfl, rfl, rfl, by decide +kernel, rfl, by decide +kernel, by decide +kernel⟩⟩, ⟨by decide +kernel, ⟨rfl, rfl, rfl, by decide +kernel, rfl, by decide +kernel, by decide +kernel⟩⟩, ⟨by decide +kernel, ⟨rfl, rfl, rfl, by decide +kernel, rfl, by decide +kernel, by decide +kernel⟩⟩, ⟨by decide +kernel, ⟨rfl, rfl, rfl, by decide +kernel, rfl, by decide +kernel, by decide +kernel⟩⟩, ⟨by decide +kernel, ⟨rfl, rfl, rfl, by decide +kernel, rfl, by decide +kernel, by decide +kernel⟩⟩, ⟨by decide +kernel, ⟨rfl, rfl, rfl, by decide +kernel, rfl, by decide +kernel, by decide +kernel⟩⟩, ⟨by decide +kernel, ⟨rfl, rfl, rfl, by decide +kernel, rfl, by decide +kernel, by decide +kernel⟩⟩, ⟨by decide +kernel, ⟨rfl, rfl, rfl, by decide +kernel, rfl, by decide +kernel, by decide +kernel⟩⟩, ⟨by decide +kernel, ⟨rfl, rfl, rfl, by decide +kernel, rfl, by decide +kernel, by decide +kernel⟩⟩, ⟨by decide +kernel, ⟨rfl, rfl, rfl, by decide +kernel, rfl, by decide +kernel, by decide +kernel⟩⟩, ⟨by decide +kernel, ⟨rfl, rfl, rfl, by decide +kernel, rfl, by decide +kernel, by decide +kernel⟩⟩, ⟨by decide +kernel, ⟨rfl, rfl, rfl, by decide +kernel, rfl, by decide +kernel, by decide +kernel⟩⟩, ⟨by decide +kernel, ⟨rfl, rfl, rfl, by decide +kernel, rfl, by decide +kernel, by decide +kernel⟩⟩, ⟨by decide +kernel, ⟨rfl, rfl, rfl, by decide +kernel, rfl, by decide +kernel, by decide +kernel⟩⟩, ⟨by decide +kernel, ⟨rfl, rfl, rfl, by decide +kernel, rfl, by decide +kernel, by decide +kernel⟩⟩, ⟨by decide +kernel, ⟨rfl, rfl, rfl, by decide +kernel, rfl, by decide +kernel, by decide +kernel⟩⟩, ⟨by decide +kernel, ⟨rfl, rfl, rfl, by decide +kernel, rfl, by decide +kernel, by decide +kernel⟩⟩, ⟨by decide +kernel, ⟨rfl, rfl, rfl, by decide +kernel, rfl, by decide +kernel, by decide +kernel⟩⟩, ⟨by decide +kernel, ⟨rfl, rfl, rfl, by decide +kernel, rfl, by decide +kernel, by decide +kernel⟩⟩, ⟨by decide +kernel, ⟨rfl, rfl, rfl, by decide +kernel, rfl, by decide +kernel, by decide +kernel⟩⟩, ⟨by decide +kernel, ⟨rfl, rfl, rfl, by decide +kernel, rfl, by decide +kernel, by decide +kernel⟩⟩, ⟨by decide +kernel, ⟨rfl, rfl, rfl, by decide +kernel, rfl, by decide +kernel, by decide +kernel⟩⟩, ⟨by decide +kernel, ⟨rfl, rfl, rfl, by decide +kernel, rfl, by decide +kernel, by decide +kernel⟩⟩, trivial⟩
theorem chkLaw : chkSs tb lawN (defScope sLaw) rest ((defBody sLaw).tail) = true := by decide +kernel
theorem scLaw : FnScope lawN ["script"] (defScope sLaw) := ⟨rfl, rfl, rfl, by decide +kernel, rfl, by decide +kernel, by decide +kernel⟩
theorem bd_f_law_draw {K : PySem.W.Frag} {f : Addr} {fd : FuncData} (F : Fun K "_law_draw" "_law_draw" sDraw f fd) : Binds K fd ["state", "many"] [] := F.binds (ps := ["state", "many"]) fun _ _ _ _ _ _ us hl => match us, hl with | [_, _], _ => rfl
theorem bd_f_law_state {K : PySem.W.Frag} {f : Addr} {fd : FuncData} (F : Fun K "_law_state" "_law_state" sState f fd) : Binds K fd ["script"] [] := F.binds (ps := ["script"]) fun _ _ _ _ _ _ us hl => match us, hl with | [_], _ => rfl
theorem bd_f_primes_of {K : PySem.W.Frag} {f : Addr} {fd : FuncData} (F : Fun K "primes_of" "primes_of" s_f_primes_of f fd) : Binds K fd ["n"] [] := F.binds (ps := ["n"]) fun _ _ _ _ _ _ us hl => match us, hl with | [_], _ => rfl
theorem bd_f_count_classes {K : PySem.W.Frag} {f : Addr} {fd : FuncData} (F : Fun K "count_classes" "count_classes" s_f_count_classes f fd) : Binds K fd ["n"] [] := F.binds (ps := ["n"]) fun _ _ _ _ _ _ us hl => match us, hl with | [_], _ => rfl
theorem bd_f_class_of {K : PySem.W.Frag} {f : Addr} {fd : FuncData} (F : Fun K "class_of" "class_of" s_f_class_of f fd) : Binds K fd ["n", "matrix"] [] := F.binds (ps := ["n", "matrix"]) fun _ _ _ _ _ _ us hl => match us, hl with | [_, _], _ => rfl
theorem bd_f_turn_class {K : PySem.W.Frag} {f : Addr} {fd : FuncData} (F : Fun K "turn_class" "turn_class" s_f_turn_class f fd) : Binds K fd ["n", "matrix"] [] := F.binds (ps := ["n", "matrix"]) fun _ _ _ _ _ _ us hl => match us, hl with | [_, _], _ => rfl
theorem bd_f_cover_of {K : PySem.W.Frag} {f : Addr} {fd : FuncData} (F : Fun K "cover_of" "cover_of" s_f_cover_of f fd) : Binds K fd ["points", "first", "second"] [] := F.binds (ps := ["points", "first", "second"]) fun _ _ _ _ _ _ us hl => match us, hl with | [_, _, _], _ => rfl
theorem bd_f_cover_of_4 {K : PySem.W.Frag} {f : Addr} {fd : FuncData} (F : Fun K "cover_of" "cover_of" s_f_cover_of_4 f fd) : Binds K fd ["points", "first", "second"] [] := F.binds (ps := ["points", "first", "second"]) fun _ _ _ _ _ _ us hl => match us, hl with | [_, _, _], _ => rfl
theorem bd_f_up_to_sign {K : PySem.W.Frag} {f : Addr} {fd : FuncData} (F : Fun K "up_to_sign" "up_to_sign" s_f_up_to_sign f fd) : Binds K fd ["n", "c", "d"] [] := F.binds (ps := ["n", "c", "d"]) fun _ _ _ _ _ _ us hl => match us, hl with | [_, _, _], _ => rfl
theorem bd_f_cover_one {K : PySem.W.Frag} {f : Addr} {fd : FuncData} (F : Fun K "cover_one" "cover_one" s_f_cover_one f fd) : Binds K fd ["n"] [] := F.binds (ps := ["n"]) fun _ _ _ _ _ _ us hl => match us, hl with | [_], _ => rfl
theorem bd_f_step_s {K : PySem.W.Frag} {f : Addr} {fd : FuncData} (F : Fun K "step_s" "step_s" s_f_step_s f fd) : Binds K fd ["row"] [] := F.binds (ps := ["row"]) fun _ _ _ _ _ _ us hl => match us, hl with | [_], _ => rfl
theorem bd_f_step_r {K : PySem.W.Frag} {f : Addr} {fd : FuncData} (F : Fun K "step_r" "step_r" s_f_step_r f fd) : Binds K fd ["row"] [] := F.binds (ps := ["row"]) fun _ _ _ _ _ _ us hl => match us, hl with | [_], _ => rfl
theorem bd_f_cover_whole {K : PySem.W.Frag} {f : Addr} {fd : FuncData} (F : Fun K "cover_whole" "cover_whole" s_f_cover_whole f fd) : Binds K fd ["n"] [] := F.binds (ps := ["n"]) fun _ _ _ _ _ _ us hl => match us, hl with | [_], _ => rfl
theorem bd_f_law_pick {K : PySem.W.Frag} {f : Addr} {fd : FuncData} (F : Fun K "_law_pick" "_law_pick" s_f_law_pick f fd) : Binds K fd ["state", "row"] [] := F.binds (ps := ["state", "row"]) fun _ _ _ _ _ _ us hl => match us, hl with | [_, _], _ => rfl
theorem bd_f_law_eq {K : PySem.W.Frag} {f : Addr} {fd : FuncData} (F : Fun K "_law_eq" "_law_eq" s_f_law_eq f fd) : Binds K fd ["told", "due"] [] := F.binds (ps := ["told", "due"]) fun _ _ _ _ _ _ us hl => match us, hl with | [_, _], _ => rfl
theorem bd_f_law_gcd {K : PySem.W.Frag} {f : Addr} {fd : FuncData} (F : Fun K "_law_gcd" "_law_gcd" s_f_law_gcd f fd) : Binds K fd ["a", "b"] [] := F.binds (ps := ["a", "b"]) fun _ _ _ _ _ _ us hl => match us, hl with | [_, _], _ => rfl
theorem bd_f_law_mul {K : PySem.W.Frag} {f : Addr} {fd : FuncData} (F : Fun K "_law_mul" "_law_mul" s_f_law_mul f fd) : Binds K fd ["one", "other"] [] := F.binds (ps := ["one", "other"]) fun _ _ _ _ _ _ us hl => match us, hl with | [_, _], _ => rfl
theorem bd_f_law_class {K : PySem.W.Frag} {f : Addr} {fd : FuncData} (F : Fun K "_law_class" "_law_class" s_f_law_class f fd) : Binds K fd ["n", "matrix"] [] := F.binds (ps := ["n", "matrix"]) fun _ _ _ _ _ _ us hl => match us, hl with | [_, _], _ => rfl
theorem bd_f_law_turn_class {K : PySem.W.Frag} {f : Addr} {fd : FuncData} (F : Fun K "_law_turn_class" "_law_turn_class" s_f_law_turn_class f fd) : Binds K fd ["n", "matrix"] [] := F.binds (ps := ["n", "matrix"]) fun _ _ _ _ _ _ us hl => match us, hl with | [_, _], _ => rfl
theorem bd_f_law_led {K : PySem.W.Frag} {f : Addr} {fd : FuncData} (F : Fun K "_law_led" "_law_led" s_f_law_led f fd) : Binds K fd ["cover", "coset", "word"] [] := F.binds (ps := ["cover", "coset", "word"]) fun _ _ _ _ _ _ us hl => match us, hl with | [_, _, _], _ => rfl
theorem bd_f_law_is_cover {K : PySem.W.Frag} {f : Addr} {fd : FuncData} (F : Fun K "_law_is_cover" "_law_is_cover" s_f_law_is_cover f fd) : Binds K fd ["cover"] [] := F.binds (ps := ["cover"]) fun _ _ _ _ _ _ us hl => match us, hl with | [_], _ => rfl
theorem bd_f_law_word {K : PySem.W.Frag} {f : Addr} {fd : FuncData} (F : Fun K "_law_word" "_law_word" s_f_law_word f fd) : Binds K fd ["state", "many"] [] := F.binds (ps := ["state", "many"]) fun _ _ _ _ _ _ us hl => match us, hl with | [_, _], _ => rfl
theorem bd_f_law_of_word {K : PySem.W.Frag} {f : Addr} {fd : FuncData} (F : Fun K "_law_of_word" "_law_of_word" s_f_law_of_word f fd) : Binds K fd ["word"] [] := F.binds (ps := ["word"]) fun _ _ _ _ _ _ us hl => match us, hl with | [_], _ => rfl
theorem bd_f_law_pair {K : PySem.W.Frag} {f : Addr} {fd : FuncData} (F : Fun K "_law_pair" "_law_pair" s_f_law_pair f fd) : Binds K fd ["n", "c", "d"] [] := F.binds (ps := ["n", "c", "d"]) fun _ _ _ _ _ _ us hl => match us, hl with | [_, _, _], _ => rfl
theorem bd_f_law_ones {K : PySem.W.Frag} {f : Addr} {fd : FuncData} (F : Fun K "_law_ones" "_law_ones" s_f_law_ones f fd) : Binds K fd ["n"] [] := F.binds (ps := ["n"]) fun _ _ _ _ _ _ us hl => match us, hl with | [_], _ => rfl
theorem bd_f_law_wholes {K : PySem.W.Frag} {f : Addr} {fd : FuncData} (F : Fun K "_law_wholes" "_law_wholes" s_f_law_wholes f fd) : Binds K fd ["n"] [] := F.binds (ps := ["n"]) fun _ _ _ _ _ _ us hl => match us, hl with | [_], _ => rfl
def gl (n : Nat) : Glob TA' := ⟨run pg n, fun c => cons[c]?, pg.dct⟩
theorem cop_eq_int (a b : Int) : cop .eq (.int a) (.int b) = some (decide (a = b)) := by
  rw [cop_eq (shaped_int' a) (shaped_int' b), eqv_int]
theorem cop_ne_int (a b : Int) : cop .ne (.int a) (.int b) = some (!decide (a = b)) := by
  rw [cop_ne (shaped_int' a) (shaped_int' b), eqv_int]
theorem cop_gt_int (a b : Int) : cop .gt (.int a) (.int b) = some (decide (b < a)) := rfl
theorem cop_ge_int (a b : Int) : cop .ge (.int a) (.int b) = some (decide (b ≤ a)) := rfl
theorem gl_call (n f : Nat) (ds : List PD) (τ : TA') : (gl n).call f ds τ = run pg n f ds τ := rfl
theorem rg {n f nn ar : Nat} {body : Ss} {args : List PD} {τ τ' : TA'} {d : PD} (ρ : Ev) (h : pg.defs[f]? = some (.code nn ar body)) (hl : args.length = ar) (hρ : args.map (fun d => some (Sl.sh d)) ++ List.replicate (nn - args.length) none = ρ) (e : exs (gl n) body ρ τ = some (.rt d τ')) : run pg (n + 1) f args τ = some (d, τ') :=
  run_rt h hl (by rw [hρ]; exact e)

theorem okL1 : okLen 1 = true := by decide +kernel
theorem okL2 : okLen 2 = true := by decide +kernel
theorem okL3 : okLen 3 = true := by decide +kernel
theorem okL4 : okLen 4 = true := by decide +kernel

theorem okLen0 : okLen 0 = true := by decide +kernel
theorem clt_int (a b : Int) : cop .lt (.int a) (.int b) = some (decide (a < b)) := rfl
theorem cle_int (a b : Int) : cop .le (.int a) (.int b) = some (decide (a ≤ b)) := rfl
theorem small_sl {n : Nat} (h : n ≤ 100000) : n ≤ sizeLine := by rw [sizeLine_eq]; omega
theorem gI_bi (a b : Int) : biD .gcd [.int a, .int b] = some (.int (gI a b)) := rfl
theorem rng_items {g : Glob TA'} {a : E} {ρ : Ev} {τ τ' : TA'} {j : Int} (h : ev g a ρ τ = some (.int j, τ')) (h0 : 0 ≤ j) (h1 : j ≤ 1000000) : items g (.rng1 a) ρ τ = some ((rangeI 0 j.toNat).map .int, τ') := by
  rw [items_rng1 h (small_smallR (by omega) h1), rangeD_I]
theorem boolsOf_map : ∀ l : List Bool, boolsOf (l.map .bool) = some l
  | [] => rfl
  | b :: l => by rw [List.map_cons, boolsOf, boolsOf_map l]; rfl
theorem items_ints {g : Glob TA'} {e : E} {ρ : Ev} {τ τ' : TA'} {l : List Int} (h : ev g e ρ τ = some (.list (l.map .int), τ')) : items g (.seq e) ρ τ = some (l.map .int, τ') := items_seq h rfl

theorem evs_cons {g : Glob TA'} {a : E} {es : Es} {ρ : Ev} {τ τ1 τ2 : TA'} {d : PD} {ds : List PD} (h1 : ev g a ρ τ = some (d, τ1)) (h2 : evs g es ρ τ1 = some (ds, τ2)) : evs g (.cons a es) ρ τ = some (d :: ds, τ2) := by
  rw [evs, h1, Option.bind_some]
  dsimp only
  rw [h2]
  rfl
theorem evs_nil {g : Glob TA'} {ρ : Ev} {τ : TA'} : evs g .nil ρ τ = some ([], τ) := by rw [evs]
theorem ev_lst {g : Glob TA'} {es : Es} {ρ : Ev} {τ τ1 : TA'} {ds : List PD} (h : evs g es ρ τ = some (ds, τ1)) (hl : ds.length ≤ 1000) : ev g (.lst es) ρ τ = some (.list ds, τ1) := by
  rw [ev, h, Option.bind_some]
  exact if_pos (decide_eq_true (small_sl (show ds.length ≤ 100000 by omega)))
theorem ev_pk {g : Glob TA'} {ρ : Ev} {τ : TA'} {i : Nat} {d : PD} (h : peek ρ i = some d) : ev g (.pk i) ρ τ = some (d, τ) := by rw [ev, h]; rfl
theorem ev_neg1 {g : Glob TA'} {ρ : Ev} {τ : TA'} {i : Int} : ev g (.neg (.int i)) ρ τ = some (.int (-i), τ) := by rw [ev, ev_int]; rfl
theorem ev_ix' {g : Glob TA'} {a b : E} {ρ : Ev} {τ τ1 τ2 : TA'} {d i x : PD} (h1 : ev g a ρ τ = some (d, τ1)) (h2 : ev g b ρ τ1 = some (i, τ2)) (h : pix d i = some x) : ev g (.ix a b) ρ τ = some (x, τ2) := by
  rw [ev, h1, Option.bind_some]
  dsimp only
  rw [h2, Option.bind_some]
  dsimp only
  rw [h]
  rfl
theorem exs_set' {g : Glob TA'} {i : Nat} {e : E} {r : Ss} {ρ : Ev} {τ τ1 : TA'} {d : PD} (hi : i < ρ.length) (h : ev g e ρ τ = some (d, τ1)) : exs g (.cons (.set i e) r) ρ τ = exs g r (put ρ i (.sh d)) τ1 := exs_nx (by
  rw [ex, h, Option.bind_some]
  dsimp only
  rw [if_pos hi])
theorem exs_par2' {g : Glob TA'} {i j : Nat} {a b : E} {r : Ss} {ρ : Ev} {τ τ1 τ2 : TA'} {d f : PD} (hi : i < ρ.length) (hj : j < ρ.length) (h : ev g a ρ τ = some (d, τ1)) (h2 : ev g b ρ τ1 = some (f, τ2)) : exs g (.cons (.par2 i j a b) r) ρ τ = exs g r (put (put ρ i (.sh d)) j (.sh f)) τ2 := exs_nx (by
  rw [ex, h, Option.bind_some]
  dsimp only
  rw [h2, Option.bind_some]
  dsimp only
  rw [if_pos ⟨hi, hj⟩])
theorem exs_own' {g : Glob TA'} {i : Nat} {e : E} {r : Ss} {ρ : Ev} {τ τ1 : TA'} {xs : List PD} (hi : i < ρ.length) (h : ev g e ρ τ = some (.list xs, τ1)) : exs g (.cons (.own i e) r) ρ τ = exs g r (put ρ i (.ow xs)) τ1 := exs_nx (by
  rw [ex, h, Option.bind_some]
  dsimp only
  rw [if_pos hi])
theorem exs_app' {g : Glob TA'} {i : Nat} {e : E} {r : Ss} {ρ : Ev} {τ τ1 : TA'} {d : PD} {xs : List PD} (h : ev g e ρ τ = some (d, τ1)) (hg : getO ρ i = some xs) (hl : xs.length ≤ 1000) : exs g (.cons (.app i e) r) ρ τ = exs g r (put ρ i (.ow (xs ++ [d]))) τ1 := exs_nx (by
  rw [ex, h, Option.bind_some, hg]
  dsimp only
  rw [if_pos (decide_eq_true (by rw [sizeLine_eq]; omega))])
theorem exs_unp' {g : Glob TA'} {tg : Tg} {e : E} {r : Ss} {ρ ρ1 : Ev} {τ τ1 : TA'} {d : PD} (h : ev g e ρ τ = some (d, τ1)) (hb : bindT tg d ρ = some ρ1) : exs g (.cons (.unp tg e) r) ρ τ = exs g r ρ1 τ1 := exs_nx (by
  rw [ex, h, Option.bind_some, hb]
  rfl)
theorem exs_ret' {g : Glob TA'} {e : E} {r : Ss} {ρ : Ev} {τ τ1 : TA'} {d : PD} (h : ev g e ρ τ = some (d, τ1)) : exs g (.cons (.ret e) r) ρ τ = some (.rt d τ1) := exs_rt (by
  rw [ex, h]
  rfl)
theorem ev_ite {g : Glob TA'} {t a b : E} {ρ : Ev} {τ τ1 : TA'} {c : Bool} (h : ev g t ρ τ = some (.bool c, τ1)) : ev g (.ite t a b) ρ τ = if c then ev g a ρ τ1 else ev g b ρ τ1 := by
  rw [ev, h, Option.bind_some]
  rfl
theorem ev_and2 {g : Glob TA'} {a b : E} {ρ : Ev} {τ τ1 τ2 : TA'} {d : PD} (h : ev g a ρ τ = some (.bool true, τ1)) (h2 : ev g b ρ τ1 = some (d, τ2)) : ev g (.ands (.cons a (.cons b .nil))) ρ τ = some (d, τ2) := by
  rw [ev, evAnd, h, Option.bind_some]
  show (some true).bind _ = _
  rw [Option.bind_some, if_pos rfl, evAnd, h2, Option.bind_some]
theorem ev_non {g : Glob TA'} {ρ : Ev} {τ : TA'} : ev g .non ρ τ = some (.none, τ) := by rw [ev]
theorem nt_eq {g : Glob TA'} {a b : E} {ρ : Ev} {τ τ1 τ2 : TA'} {d e : PD} (h1 : ev g a ρ τ = some (d, τ1)) (h2 : ev g b ρ τ1 = some (e, τ2)) (h : g.call 13 [d, e] τ2 = some (.bool true, τ2)) : evT g (.nt (.call 13 (.cons a (.cons b .nil)))) ρ τ = some (false, τ2) :=
  evT_nt (evT_b (ev_cal2 h1 h2 h))
theorem ev_cal3 {g : Glob TA'} {f : Nat} {a1 a2 a3 : E} {ρ : Ev} {τ τ1 τ2 τ3 τ4 : TA'} {d1 d2 d3 r : PD} (h1 : ev g a1 ρ τ = some (d1, τ1)) (h2 : ev g a2 ρ τ1 = some (d2, τ2)) (h3 : ev g a3 ρ τ2 = some (d3, τ3)) (hb : g.call f [d1, d2, d3] τ3 = some (r, τ4)) : ev g (.call f (.cons a1 (.cons a2 (.cons a3 .nil)))) ρ τ = some (r, τ4) := by
  rw [ev, evs_cons h1 (evs_cons h2 (evs_cons h3 evs_nil)), Option.bind_some]
  exact hb
theorem ev_cal5 {g : Glob TA'} {f : Nat} {a1 a2 a3 a4 a5 : E} {ρ : Ev} {τ τ1 τ2 τ3 τ4 τ5 τ6 : TA'} {d1 d2 d3 d4 d5 r : PD} (h1 : ev g a1 ρ τ = some (d1, τ1)) (h2 : ev g a2 ρ τ1 = some (d2, τ2)) (h3 : ev g a3 ρ τ2 = some (d3, τ3)) (h4 : ev g a4 ρ τ3 = some (d4, τ4)) (h5 : ev g a5 ρ τ4 = some (d5, τ5)) (hb : g.call f [d1, d2, d3, d4, d5] τ5 = some (r, τ6)) : ev g (.call f (.cons a1 (.cons a2 (.cons a3 (.cons a4 (.cons a5 .nil)))))) ρ τ = some (r, τ6) := by
  rw [ev, evs_cons h1 (evs_cons h2 (evs_cons h3 (evs_cons h4 (evs_cons h5 evs_nil)))), Option.bind_some]
  exact hb

theorem lgcd_loop (n : Nat) (τ : TA') (G : Int) {m : Nat} (hm : m < FUEL) {a b : Int} (h0 : 0 ≤ a) (h1 : 0 ≤ b) (hb : b.toNat = m) (hg : gI a b = G) :
    ex (gl n) (.whl (.cmp .gt (.v 1) (.int 0)) f_law_gcd_b0) [some (.sh (.int a)), some (.sh (.int b))] τ = some (.nx [some (.sh (.int G)), some (.sh (.int 0))] τ) := by
  rw [ex]
  obtain ⟨ρ', τ', e, ⟨rfl, a', b', h0', h1', hb', hg', rfl⟩, _⟩ := loopW_inv (t := fun ρ τ => evT (gl n) (.cmp .gt (.v 1) (.int 0)) ρ τ) (body := exs (gl n) f_law_gcd_b0)
    (fun m ρ τ' => τ' = τ ∧ ∃ a b, 0 ≤ a ∧ 0 ≤ b ∧ b.toNat = m ∧ gI a b = G ∧ ρ = [some (.sh (.int a)), some (.sh (.int b))]) (by
      rintro m ρ τ' ⟨rfl, a, b, h0, h1, hb, hg, rfl⟩
      refine ⟨τ', ?_⟩
      have ht : evT (gl n) (.cmp .gt (.v 1) (.int 0)) [some (.sh (.int a)), some (.sh (.int b))] τ' = some (decide (0 < b), τ') := by
        simp [evT, ev, get, cop_gt_int, truth]
      by_cases hz : b = 0
      · subst hz
        exact .inl ⟨by rw [ht]; rfl, rfl, a, 0, h0, h1, rfl, hg, rfl⟩
      · refine .inr ⟨by rw [ht, decide_eq_true (show 0 < b by omega)], [some (.sh (.int b)), some (.sh (.int (a.fmod b)))], τ', (a.fmod b).toNat, .inl ?_, ?_, rfl, b, a.fmod b, h1, Int.fmod_nonneg_of_pos _ (by omega), rfl, by rw [gI_step (by omega)]; exact hg, rfl⟩
        · simp [f_law_gcd_b0, exs, ex, ev, evs, get, put, biD, bop, hz]
        · have := Int.fmod_lt_of_pos a (show 0 < b by omega)
          have := Int.fmod_nonneg_of_pos a (show 0 < b by omega)
          omega) m FUEL [some (.sh (.int a)), some (.sh (.int b))] τ hm ⟨rfl, a, b, h0, h1, hb, hg, rfl⟩
  have hz : b' = 0 := by omega
  subst hz
  rw [gI_zero] at hg'
  have : a' = G := by omega
  subst this
  exact e
theorem r_lgcd (n : Nat) (a b : Int) (hb : Sm 4096 b) (τ : TA') : run pg (n + 1) 14 [.int a, .int b] τ = some (.int (gI a b), τ) := by
  have e := lgcd_loop n τ (gI a b) (m := (if b < 0 then -b else b).toNat) (by unfold FUEL; unfold Sm at hb; split <;> omega) (a := if a < 0 then -a else a) (b := if b < 0 then -b else b) (by split <;> omega) (by split <;> omega) rfl (by
    unfold gI
    congr 2 <;> split <;> omega)
  refine rg [some (.sh (.int a)), some (.sh (.int b))] rfl rfl rfl ?_
  unfold f_law_gcd
  rw [exs_nx (ρ1 := [some (.sh (.int (if a < 0 then -a else a))), some (.sh (.int (if b < 0 then -b else b)))]) (τ1 := τ) (by simp [ex, ev, evs, get, put, biD])]
  rw [exs_nx e]
  simp [exs, ex, ev, get]

def prStep (m : Int) (told : List Int) (p : Int) : List Int := if m.fmod p = 0 ∧ (told.all fun q => decide (p.fmod q ≠ 0)) = true then told ++ [p] else told
def prL (m : Int) : List Int := (rangeI 2 (m - 1).toNat).foldl (prStep m) []
theorem pr_step (n : Nat) (τ : TA') (m p : Int) (told : List Int) (hm : 0 ≤ m) (hm1 : m ≤ 1000) (hp : 2 ≤ p) (hl : told.length ≤ 1000) (hq : ∀ q ∈ told, 2 ≤ q) :
    exs (gl n) f_primes_of_b0 [some (.sh (.int m)), some (.ow (told.map .int)), some (.sh (.int p)), none] τ = some (.nx [some (.sh (.int m)), some (.ow ((prStep m told p).map .int)), some (.sh (.int p)), none] τ) := by
  have hs : told.length < sizeLine := by have := small_sl (show told.length + 1 ≤ 100000 by omega); omega
  have e := ev_lcf (g := gl n) (i := 3) (it := .seq (.pk 1)) (c := .bl true) (elt := .cmp .ne (.bin .mod (.v 2) (.v 3)) (.int 0)) (ρ := [some (.sh (.int m)), some (.ow (told.map .int)), some (.sh (.int p)), none]) (τ := τ) (τ' := τ) told .int (fun _ => true) (fun q => .bool (decide (p.fmod q ≠ 0))) (items_ints (by simp [ev, peek])) (small_sl (by omega)) (by show 3 < 4; decide) (fun q hq' ρ1 hρ => by
    have := hq q hq'
    subst hρ
    constructor
    · simp [evT, ev, truth]
    · intro _; simp [ev, get, bop, cop_ne_int, show q ≠ 0 by omega])
  rw [show told.filter (fun _ => true) = told from List.filter_eq_self.mpr fun _ _ => rfl] at e
  have hb : biD .all [.list (told.map fun q => PyData.bool (decide (p.fmod q ≠ 0)))] = some (.bool (told.all fun q => decide (p.fmod q ≠ 0))) := by
    show (boolsOf (told.map fun q => PyData.bool (decide (p.fmod q ≠ 0)))).map _ = _
    rw [show (told.map fun q => PyData.bool (decide (p.fmod q ≠ 0))) = (told.map fun q => decide (p.fmod q ≠ 0)).map .bool from by rw [List.map_map]; rfl, boolsOf_map, Option.map_some, List.all_map]
    rfl
  have hp0 : p ≠ 0 := by omega
  have t1 : evT (gl n) (.cmp .eq (.bin .mod (.v 0) (.v 2)) (.int 0)) [some (.sh (.int m)), some (.ow (told.map .int)), some (.sh (.int p)), none] τ = some (decide (m.fmod p = 0), τ) := by
    simp [evT, ev, get, bop, cop_eq_int, truth, hp0]
  have t2 := evT_b (ev_bi1 e hb)
  have ht := evT_and (b := .bi .all (.cons (.lc (.name 3) (.seq (.pk 1)) (.bl true) (.cmp .ne (.bin .mod (.v 2) (.v 3)) (.int 0))) .nil)) (es := .nil) t1
  rw [evT_and1, t2] at ht
  unfold f_primes_of_b0 prStep
  by_cases h1 : m.fmod p = 0
  · rw [decide_eq_true h1, if_pos rfl] at ht
    by_cases h2 : (told.all fun q => decide (p.fmod q ≠ 0)) = true
    · rw [if_pos ⟨h1, h2⟩]
      rw [h2] at ht
      rw [exs_if ht, if_pos rfl]
      simp [exs, ex, ev, get, getO, put, hs]
    · rw [if_neg fun z => h2 z.2]
      rw [Bool.not_eq_true] at h2
      rw [h2] at ht
      rw [exs_if0 ht, exs]
  · rw [if_neg fun z => h1 z.1]
    rw [decide_eq_false h1, if_neg (by decide)] at ht
    rw [exs_if0 ht, exs]
theorem prStep_len (m : Int) (told : List Int) (p : Int) : (prStep m told p).length ≤ told.length + 1 := by
  unfold prStep
  split
  · rw [List.length_append, List.length_singleton]; exact Nat.le_refl _
  · omega
theorem prStep_mem {m : Int} {told : List Int} {p q : Int} (hp : 2 ≤ p ∧ p ≤ 900) (h : ∀ q ∈ told, 2 ≤ q ∧ q ≤ 900) (hq : q ∈ prStep m told p) : 2 ≤ q ∧ q ≤ 900 := by
  unfold prStep at hq
  split at hq
  · rcases List.mem_append.mp hq with hq | hq
    · exact h q hq
    · rw [List.mem_singleton.mp hq]; exact hp
  · exact h q hq
theorem r_primes (n : Nat) (m : Int) (h0 : 1 ≤ m) (h1 : m ≤ 900) (τ : TA') : run pg (n + 1) 1 [.int m] τ = some (.list ((prL m).map .int), τ) ∧ (∀ q ∈ prL m, 2 ≤ q ∧ q ≤ 900) := by
  obtain ⟨y, e, h2, h3⟩ := loopF_foldN (τ := τ) (bd := bindT (.name 2)) (body := exs (gl n) f_primes_of_b0) (fun (told : List Int) x => [some (.sh (.int m)), some (.ow (told.map .int)), x, none]) PyData.int (prStep m) (fun i told => told.length ≤ i ∧ ∀ q ∈ told, 2 ≤ q ∧ q ≤ 900) 900 (rangeI 2 (m - 1).toNat) 0 [] none (by rw [rangeI_len]; omega) ⟨Nat.le_refl _, fun q h => by cases h⟩ (fun p hp i told x hi hh => by
    have hp := rangeI_mem hp
    refine ⟨⟨by have := prStep_len m told p; omega, fun q hq => prStep_mem ⟨hp.1, by omega⟩ hh.2 hq⟩, _, _, rfl, .inl (pr_step n τ m p told (by omega) (by omega) hp.1 (by omega) fun q hq => (hh.2 q hq).1)⟩)
  refine ⟨rg [some (.sh (.int m)), none, none, none] rfl rfl rfl ?_, h3⟩
  unfold f_primes_of
  rw [exs_nx (ρ1 := [some (.sh (.int m)), some (.ow []), none, none]) (τ1 := τ) (by simp [ex, ev, evs, put, okLen0])]
  refine (exs_fr (ds := (rangeI 2 (m - 1).toNat).map .int) (τ1 := τ) (by simp [items, ev, get, bop, small_smallR (show (-1000000:Int) ≤ 2 by decide) (by decide), small_smallR (show (-1000000:Int) ≤ m + 1 by omega) (by omega), rangeD_I, show m + 1 - 2 = m - 1 by omega]) e).trans ?_
  rw [exs_frz (xs := (prL m).map .int) rfl]
  rw [exs_rt]
  simp [ex, ev, get, put]

theorem pix_at {xs : List PD} {k : Int} (h0 : 0 ≤ k) (h1 : k < (xs.length : Int)) : ∃ x ∈ xs, pix (.list xs) (.int k) = some x ∧ pix (.tuple xs) (.int k) = some x := by
  obtain ⟨x, hx, e⟩ := get_mem h0 h1
  exact ⟨x, hx, e, e⟩
theorem filter_no {α : Type} (l : List α) : l.filter (fun _ => false) = [] := List.filter_eq_nil_iff.mpr fun _ _ => by simp
theorem filter_yes {α : Type} (l : List α) : l.filter (fun _ => true) = l := List.filter_eq_self.mpr fun _ _ => rfl
theorem eq_seq (n : Nat) (b : Bool) (xs : List PD) (hl : xs.length ≤ 100000) (τ : TA') (hx : ∀ x ∈ xs, run pg (n + 1) 13 [x, x] τ = some (.bool true, τ)) : run pg (n + 2) 13 [if b then .list xs else .tuple xs, if b then .list xs else .tuple xs] τ = some (.bool true, τ) := by
  have e : ∀ D : PD, D = (if b then PyData.list xs else .tuple xs) → ev (gl (n + 1)) (.lc (.name 2) (.rng1 (.bi .len (.cons (.v 1) .nil))) (.nt (.call 13 (.cons (.ix (.v 0) (.v 2)) (.cons (.ix (.v 1) (.v 2)) .nil)))) (.v 2)) [some (.sh D), some (.sh D), none] τ = some (.list [], τ) := fun D hD => by
    have hlen : biD .len [D] = some (.int xs.length) := by subst hD; cases b <;> rfl
    have h := ev_lcf (g := gl (n + 1)) (i := 2) (it := .rng1 (.bi .len (.cons (.v 1) .nil))) (c := .nt (.call 13 (.cons (.ix (.v 0) (.v 2)) (.cons (.ix (.v 1) (.v 2)) .nil)))) (elt := .v 2) (ρ := [some (.sh D), some (.sh D), none]) (τ := τ) (τ' := τ) (rangeI 0 (xs.length : Int).toNat) .int (fun _ => false) .int (rng_items (ev_bi1 (ev_v rfl) hlen) (by omega) (by omega)) (small_sl (by rw [rangeI_len]; omega)) (by show 2 < 3; decide) (fun k hk ρ1 hρ => by
      have hk := rangeI_mem hk
      obtain ⟨x, hx', e1, e2⟩ := pix_at (xs := xs) hk.1 (by omega)
      have e3 : pix D (.int k) = some x := by subst hD; cases b <;> assumption
      subst hρ
      refine ⟨?_, fun z => by cases z⟩
      have ei : ∀ i, i < 2 → ev (gl (n + 1)) (.ix (.v i) (.v 2)) [some (.sh D), some (.sh D), some (.sh (.int k))] τ = some (x, τ) := fun i hi => by
        have g : get [some (.sh D), some (.sh D), some (.sh (.int k))] i = some D := by
          match i, hi with
          | 0, _ => rfl
          | 1, _ => rfl
        rw [ev, ev_v g, Option.bind_some, ev_v (d := .int k) rfl, Option.bind_some]
        show (pix D (.int k)).map _ = _
        rw [e3]
        rfl
      exact evT_nt (evT_b (ev_cal2 (ei 0 (by decide)) (ei 1 (by decide)) (by rw [gl_call]; exact hx x hx'))))
    rw [filter_no] at h
    exact h
  generalize hD : (if b then PyData.list xs else .tuple xs) = D at *
  have hlen : biD .len [D] = some (.int xs.length) := by subst hD; cases b <;> rfl
  have h1 : biD .isList [D] = some (.bool b) := by subst hD; cases b <;> rfl
  have h2 : biD .isTuple [D] = some (.bool (!b)) := by subst hD; cases b <;> rfl
  refine rg [some (.sh D), some (.sh D), none] rfl rfl rfl ?_
  have he := e D rfl
  have hc : ev (gl (n + 1)) (.cmp .eq (.lc (.name 2) (.rng1 (.bi .len (.cons (.v 1) .nil))) (.nt (.call 13 (.cons (.ix (.v 0) (.v 2)) (.cons (.ix (.v 1) (.v 2)) .nil)))) (.v 2)) (.lst .nil)) [some (.sh D), some (.sh D), none] τ = some (.bool true, τ) :=
    ev_cmp he (e := .list []) (by simp [ev, evs, okLen0]) (by decide +kernel)
  have hne : ∀ c : Bool, cop .ne (.bool c) (.bool c) = some false := fun c => by cases c <;> decide +kernel
  unfold f_law_eq
  have t1 : evT (gl (n + 1)) (.ors (.cons (.bi .isList (.cons (.v 1) .nil)) (.cons (.bi .isTuple (.cons (.v 1) .nil)) .nil))) [some (.sh D), some (.sh D), none] τ = some (true, τ) := by
    rw [evT_or (evT_b (ev_bi1 (ev_v rfl) h1)), evT_or1, evT_b (ev_bi1 (ev_v rfl) h2)]
    cases b <;> rfl
  have cl : ∀ i, i < 2 → ∀ bb r, biD bb [D] = some r → ev (gl (n + 1)) (.bi bb (.cons (.v i) .nil)) [some (.sh D), some (.sh D), none] τ = some (r, τ) := fun i hi bb r hr => by
    refine ev_bi1 (ev_v (d := D) ?_) hr
    match i, hi with
    | 0, _ => rfl
    | 1, _ => rfl
  have t2 : evT (gl (n + 1)) (.ors (.cons (.cmp .ne (.bi .isList (.cons (.v 0) .nil)) (.bi .isList (.cons (.v 1) .nil))) (.cons (.cmp .ne (.bi .isTuple (.cons (.v 0) .nil)) (.bi .isTuple (.cons (.v 1) .nil))) .nil))) [some (.sh D), some (.sh D), none] τ = some (false, τ) := by
    rw [evT_or (evT_b (ev_cmp (cl 0 (by decide) _ _ h1) (cl 1 (by decide) _ _ h1) (hne b))), evT_or1, evT_b (ev_cmp (cl 0 (by decide) _ _ h2) (cl 1 (by decide) _ _ h2) (hne _))]
    rfl
  have t3 : evT (gl (n + 1)) (.cmp .ne (.bi .len (.cons (.v 0) .nil)) (.bi .len (.cons (.v 1) .nil))) [some (.sh D), some (.sh D), none] τ = some (false, τ) :=
    evT_b (ev_cmp (cl 0 (by decide) _ _ hlen) (cl 1 (by decide) _ _ hlen) (by rw [cop_ne_int]; simp))
  rw [exs_if t1, if_pos rfl, exs_if0 t2, exs_if0 t3, exs_rt (τ1 := τ) (d := .bool true) (by rw [ex, hc]; rfl)]
  rfl
theorem eq_int (n : Nat) (a b : Int) (τ : TA') : run pg (n + 1) 13 [.int a, .int b] τ = some (.bool (decide (a = b)), τ) := by
  refine rg [some (.sh (.int a)), some (.sh (.int b)), none] rfl rfl rfl ?_
  simp [f_law_eq, exs, ex, evT, ev, evs, evOr, evAnd, get, biD, truth, cop_eq_int]
theorem eq_tup (n : Nat) (xs : List Int) (hl : xs.length ≤ 100000) (τ : TA') : run pg (n + 2) 13 [.tuple (xs.map .int), .tuple (xs.map .int)] τ = some (.bool true, τ) :=
  eq_seq n false (xs.map .int) (by rw [List.length_map]; exact hl) τ fun x hx => by
    obtain ⟨a, _, rfl⟩ := List.mem_map.mp hx
    rw [eq_int, decide_eq_true rfl]

open Cv
abbrev iv' (i : Int) : Option Sl := some (.sh (.int i))
abbrev dv' (d : PD) : Option Sl := some (.sh d)
abbrev odQ (k : Nat) (l : List Q) : Option Sl := some (.od k (kvQ l))
/-! classes -/
theorem min2_tp {x y : Q} (hx : x ≠ []) (hy : y ≠ []) : biD .min2 [tp x, tp y] = some (tp (if lexB y x then y else x)) := by
  have h : ∀ z : Q, z ≠ [] → isIntT (tp z) = true := fun z hz => by
    cases z with
    | nil => exact absurd rfl hz
    | cons i t =>
      show (isInt (.int i) && (t.map PyData.int).all isInt) = true
      rw [List.all_map, show t.all (isInt ∘ PyData.int) = true from List.all_eq_true.mpr fun _ _ => rfl]
      rfl
  show (if isIntT (tp x) && isIntT (tp y) then some (if pLt (tp y) (tp x) then tp y else tp x) else none) = _
  rw [h x hx, h y hy, if_pos (show (true && true) = true from rfl), pLt_tp]
  split <;> rfl
/-- an ints' row as an argument -/
def IsRow (d : PD) (m : Q) : Prop := itemsOf d = some (m.map .int)
theorem isRow_tp (m : Q) : IsRow (tp m) m := rfl
theorem isRow_con : IsRow (conD [.int 1, .int 0, .int 0, .int 1]) [1, 0, 0, 1] := itemsOf_conD _
theorem lc_mod (k : Nat) {n : Int} (hn : n ≠ 0) {d : PD} {m : Q} (hd : IsRow d m) (hl : m.length ≤ 100) (e : E) (f : Int → Int) (τ : TA') (he : ∀ x, ev (gl k) e [iv' n, dv' d, iv' x] τ = some (.int (f x), τ)) :
    ev (gl k) (.lc (.name 2) (.seq (.v 1)) (.bl true) e) [iv' n, dv' d, none] τ = some (.list ((m.map f).map .int), τ) := by
  have h := ev_lcf (g := gl k) (i := 2) (it := .seq (.v 1)) (c := .bl true) (elt := e) (ρ := [iv' n, dv' d, none]) (τ := τ) (τ' := τ) m .int (fun _ => true) (fun x => .int (f x)) (items_seq (ev_v rfl) hd) (small_sl (by omega)) (by show 2 < 3; decide) (fun x _ ρ1 hρ => by
    subst hρ
    exact ⟨by simp [evT, ev, truth], fun _ => he x⟩)
  rw [filter_yes] at h
  rw [h, List.map_map]
  rfl
theorem r_class (k : Nat) {n : Int} (hn : n ≠ 0) {d : PD} {m : Q} (hd : IsRow d m) (hl : m.length ≤ 100) (τ : TA') : run pg (k + 1) 3 [.int n, d] τ = some (tp (modQ n m), τ) := by
  refine rg [iv' n, dv' d, none] rfl rfl rfl ?_
  unfold f_class_of
  exact exs_ret' (ev_bi1 (lc_mod k hn hd hl _ (fun x => x.fmod n) τ fun x => ev_bin (ev_v rfl) (ev_v rfl) (bop_mod' hn)) rfl)
theorem ev_neg' {g : Glob TA'} {a : E} {ρ : Ev} {τ τ1 : TA'} {i : Int} (h : ev g a ρ τ = some (.int i, τ1)) : ev g (.neg a) ρ τ = some (.int (-i), τ1) := by rw [ev, h]; rfl
theorem r_tclass (k : Nat) {n : Int} (hn : n ≠ 0) {d : PD} {m : Q} (hd : IsRow d m) (hl : m.length ≤ 100) (h0 : m ≠ []) (τ : TA') : run pg (k + 2) 4 [.int n, d] τ = some (tp (tclL n m), τ) := by
  refine rg [iv' n, dv' d, none] rfl rfl rfl ?_
  unfold f_turn_class
  exact exs_ret' (ev_bi2 (ev_cal2 (ev_v rfl) (ev_v rfl) (by rw [gl_call]; exact r_class k hn hd hl τ)) (ev_bi1 (lc_mod (k + 1) hn hd hl _ (fun x => (-x).fmod n) τ fun x => ev_bin (ev_neg' (ev_v rfl)) (ev_v rfl) (bop_mod' hn)) rfl) (min2_tp (x := modQ n m) (y := negQ n m) (by simpa [modQ] using h0) (by simpa [negQ] using h0)))
theorem r_lclass (k : Nat) {n : Int} (hn : n ≠ 0) {d : PD} {m : Q} (hd : IsRow d m) (hl : m.length ≤ 100) (τ : TA') : run pg (k + 1) 16 [.int n, d] τ = some (tp (modQ n m), τ) := by
  refine rg [iv' n, dv' d, none] rfl rfl rfl ?_
  unfold f_law_class
  exact exs_ret' (ev_bi1 (lc_mod k hn hd hl _ (fun x => x.fmod n) τ fun x => ev_bin (ev_bi1 (b := .int) (d := .int x) (ev_v rfl) rfl) (ev_v rfl) (bop_mod' hn)) rfl)
theorem r_ltclass (k : Nat) {n : Int} (hn : n ≠ 0) {d : PD} {m : Q} (hd : IsRow d m) (hl : m.length ≤ 100) (h0 : m ≠ []) (τ : TA') : run pg (k + 2) 17 [.int n, d] τ = some (tp (tclL n m), τ) := by
  refine rg [iv' n, dv' d, none] rfl rfl rfl ?_
  unfold f_law_turn_class
  have e2 := lc_mod (k + 1) hn hd hl (.neg (.v 2)) (fun x => -x) τ fun x => ev_neg' (ev_v rfl)
  have hr : IsRow (.list ((m.map fun x => -x).map .int)) (m.map fun x => -x) := rfl
  have e3 : modQ n (m.map fun x => -x) = negQ n m := by unfold modQ negQ; rw [List.map_map]; rfl
  have r2 := r_lclass k hn hr (by rw [List.length_map]; exact hl) τ
  rw [e3] at r2
  exact exs_ret' (ev_bi2 (ev_cal2 (ev_v rfl) (ev_v rfl) (by rw [gl_call]; exact r_lclass k hn hd hl τ)) (ev_cal2 (ev_v rfl) e2 (by rw [gl_call]; exact r2)) (min2_tp (x := modQ n m) (y := negQ n m) (by simpa [modQ] using h0) (by simpa [negQ] using h0)))
theorem ev_tup2 {g : Glob TA'} {a b : E} {ρ : Ev} {τ : TA'} {x y : PD} (h1 : ev g a ρ τ = some (x, τ)) (h2 : ev g b ρ τ = some (y, τ)) : ev g (.tup (.cons a (.cons b .nil))) ρ τ = some (.tuple [x, y], τ) := by
  rw [ev, evs_cons h1 (evs_cons h2 evs_nil), Option.bind_some]
  exact if_pos okL2
theorem ev_tup4 {g : Glob TA'} {a b c d : E} {ρ : Ev} {τ : TA'} {w x y z : PD} (h1 : ev g a ρ τ = some (w, τ)) (h2 : ev g b ρ τ = some (x, τ)) (h3 : ev g c ρ τ = some (y, τ)) (h4 : ev g d ρ τ = some (z, τ)) : ev g (.tup (.cons a (.cons b (.cons c (.cons d .nil))))) ρ τ = some (.tuple [w, x, y, z], τ) := by
  rw [ev, evs_cons h1 (evs_cons h2 (evs_cons h3 (evs_cons h4 evs_nil))), Option.bind_some]
  exact if_pos okL4
theorem r_sign (k : Nat) {n : Int} (hn : n ≠ 0) (c d : Int) (τ : TA') : run pg (k + 1) 7 [.int n, .int c, .int d] τ = some (tp (tclL n [c, d]), τ) := by
  refine rg [iv' n, iv' c, iv' d] rfl rfl rfl ?_
  unfold f_up_to_sign
  have v0 : ev (gl k) (.v 0) [iv' n, iv' c, iv' d] τ = some (.int n, τ) := ev_v rfl
  have v1 : ev (gl k) (.v 1) [iv' n, iv' c, iv' d] τ = some (.int c, τ) := ev_v rfl
  have v2 : ev (gl k) (.v 2) [iv' n, iv' c, iv' d] τ = some (.int d, τ) := ev_v rfl
  exact exs_ret' (ev_bi2 (ev_tup2 (ev_bin v1 v0 (bop_mod' hn)) (ev_bin v2 v0 (bop_mod' hn))) (ev_tup2 (ev_bin (ev_neg' v1) v0 (bop_mod' hn)) (ev_bin (ev_neg' v2) v0 (bop_mod' hn))) (min2_tp (x := modQ n [c, d]) (y := negQ n [c, d]) (by simp [modQ]) (by simp [negQ])))
theorem r_pair (k : Nat) {n : Int} (hn : n ≠ 0) (c d : Int) (τ : TA') : run pg (k + 1) 22 [.int n, .int c, .int d] τ = some (tp (tclL n [c, d]), τ) := by
  refine rg [iv' n, iv' c, iv' d] rfl rfl rfl ?_
  unfold f_law_pair
  have v0 : ev (gl k) (.v 0) [iv' n, iv' c, iv' d] τ = some (.int n, τ) := ev_v rfl
  have v1 : ev (gl k) (.v 1) [iv' n, iv' c, iv' d] τ = some (.int c, τ) := ev_v rfl
  have v2 : ev (gl k) (.v 2) [iv' n, iv' c, iv' d] τ = some (.int d, τ) := ev_v rfl
  have i : ∀ {e : E} {x : Int}, ev (gl k) e [iv' n, iv' c, iv' d] τ = some (.int x, τ) → ev (gl k) (.bi .int (.cons e .nil)) [iv' n, iv' c, iv' d] τ = some (.int x, τ) := fun h => ev_bi1 h rfl
  exact exs_ret' (ev_bi2 (ev_tup2 (ev_bin (i v1) v0 (bop_mod' hn)) (ev_bin (i v2) v0 (bop_mod' hn))) (ev_tup2 (ev_bin (i (ev_neg' v1)) v0 (bop_mod' hn)) (ev_bin (i (ev_neg' v2)) v0 (bop_mod' hn))) (min2_tp (x := modQ n [c, d]) (y := negQ n [c, d]) (by simp [modQ]) (by simp [negQ])))
theorem r_steps (k : Nat) (a b c d : Int) (τ : TA') : run pg (k + 1) 9 [tp [a, b, c, d]] τ = some (tp (stS [a, b, c, d]), τ) := by
  refine rg [dv' (tp [a, b, c, d]), none, none, none, none] rfl rfl rfl ?_
  unfold f_step_s
  rw [exs_unp' (ev_v (d := tp [a, b, c, d]) rfl) (show bindT _ _ _ = some [dv' (tp [a, b, c, d]), iv' a, iv' b, iv' c, iv' d] from rfl)]
  exact exs_ret' (ev_tup4 (ev_v rfl) (ev_neg' (ev_v rfl)) (ev_v rfl) (ev_neg' (ev_v rfl)))
theorem r_stepr (k : Nat) (a b c d : Int) (τ : TA') : run pg (k + 1) 10 [tp [a, b, c, d]] τ = some (tp (stR [a, b, c, d]), τ) := by
  refine rg [dv' (tp [a, b, c, d]), none, none, none, none] rfl rfl rfl ?_
  unfold f_step_r
  rw [exs_unp' (ev_v (d := tp [a, b, c, d]) rfl) (show bindT _ _ _ = some [dv' (tp [a, b, c, d]), iv' a, iv' b, iv' c, iv' d] from rfl)]
  exact exs_ret' (ev_tup4 (ev_v rfl) (ev_bin (ev_v rfl) (ev_v rfl) (bop_sub' _ _)) (ev_v rfl) (ev_bin (ev_v rfl) (ev_v rfl) (bop_sub' _ _)))

open Cv
/-! coverings from points -/
theorem dc_pts {n : Nat} (h0 : n ≠ 0) {step : PD → TA' → Option (Option (PD × PD) × TA')} {τ : TA'} (hs : ∀ (i : Int) (x : Q), step (.tuple [.int i, tp x]) τ = some (some (tp x, .int i), τ)) : ∀ (R : List Q) (i : Int) (kvs : List (List L2.Key × PD)), (∀ x ∈ R, x.length = n) → dcLoop n step (enumD i (R.map tp)) kvs τ = some (kvP i R kvs, τ)
  | [], i, kvs, _ => rfl
  | x :: R, i, kvs, hl => by
    rw [List.map_cons, enumD, dcLoop, hs, Option.bind_some]
    dsimp only
    rw [keyD_tp h0 (hl x List.mem_cons_self), Option.bind_some, dc_pts h0 hs R (i + 1) _ fun y hy => hl y (List.mem_cons_of_mem _ hy)]
    rfl
def coBody (n : Nat) : Ss :=
  (.cons (.dcmp 3 n (.cons (.name 4) (.cons (.name 5) .nil)) (.enum (.v 0)) (.bl true) (.v 5) (.v 4))
  (.cons (.ret (.tup (.cons (.bi .tuple (.cons (.lc (.name 5) (.seq (.v 1)) (.bl true) (.dgt 3 (.v 5))) .nil)) (.cons (.bi .tuple (.cons (.lc (.name 5) (.seq (.v 2)) (.bl true) (.dgt 3 (.v 5))) .nil)) .nil)))) .nil))
abbrev lq (l : List Q) : PD := .list (l.map tp)
theorem co_body (k : Nat) {n : Nat} (h0 : n ≠ 0) {P A B : List Q} (hP : P.Nodup) (hl : ∀ x ∈ P, x.length = n) (hA : ∀ x ∈ A, x ∈ P) (hB : ∀ x ∈ B, x ∈ P) (bP : P.length ≤ 1000) (bA : A.length ≤ 1000) (bB : B.length ≤ 1000) (τ : TA') :
    exs (gl k) (coBody n) [dv' (lq P), dv' (lq A), dv' (lq B), none, none, none] τ = some (.rt (.tuple [tp (A.map fun x => (ixQ P x : Int)), tp (B.map fun x => (ixQ P x : Int))]) τ) := by
  have e4 : ex (gl k) (.dcmp 3 n (.cons (.name 4) (.cons (.name 5) .nil)) (.enum (.v 0)) (.bl true) (.v 5) (.v 4)) [dv' (lq P), dv' (lq A), dv' (lq B), none, none, none] τ = some (.nx [dv' (lq P), dv' (lq A), dv' (lq B), some (.od n (kvP 0 P [])), none, none] τ) := by
    rw [ex, show items (gl k) (.enum (.v 0)) [dv' (lq P), dv' (lq A), dv' (lq B), none, none, none] τ = some (enumD 0 (P.map tp), τ) from by rw [items, ev_v (d := lq P) rfl, Option.bind_some], Option.bind_some]
    dsimp only
    rw [if_pos (show okLen (enumD 0 (P.map tp)).length = true from by rw [enumD_len, List.length_map]; exact decide_eq_true (small_sl (by omega))), dc_pts (τ := τ) h0 ?hs P 0 [] hl, Option.bind_some]
    · rfl
    case hs =>
      intro i y
      rw [show bindT (.cons (.name 4) (.cons (.name 5) .nil)) (.tuple [.int i, tp y]) (wipeE [dv' (lq P), dv' (lq A), dv' (lq B), none, none, none] (Tg.slots (.cons (.name 4) (.cons (.name 5) .nil)))) = some [dv' (lq P), dv' (lq A), dv' (lq B), none, iv' i, dv' (tp y)] from rfl, Option.bind_some, ev, Option.bind_some]
      dsimp only
      rw [show truth (PyData.bool true) = some true from rfl, Option.bind_some, if_pos rfl, ev_v (d := tp y) rfl, Option.bind_some, ev_v (d := .int i) rfl]
      rfl
  have lcE : ∀ (i : Nat) (C : List Q), get [dv' (lq P), dv' (lq A), dv' (lq B), some (.od n (kvP 0 P [])), none, none] i = some (lq C) → (∀ x ∈ C, x ∈ P) → C.length ≤ 1000 → ev (gl k) (.bi .tuple (.cons (.lc (.name 5) (.seq (.v i)) (.bl true) (.dgt 3 (.v 5))) .nil)) [dv' (lq P), dv' (lq A), dv' (lq B), some (.od n (kvP 0 P [])), none, none] τ = some (tp (C.map fun x => (ixQ P x : Int)), τ) := fun i C hi hC bC => by
    have h := ev_lcf (g := gl k) (i := 5) (it := .seq (.v i)) (c := .bl true) (elt := .dgt 3 (.v 5)) (ρ := [dv' (lq P), dv' (lq A), dv' (lq B), some (.od n (kvP 0 P [])), none, none]) (τ := τ) (τ' := τ) C tp (fun _ => true) (fun x => .int (ixQ P x : Int)) (items_seq (ev_v hi) rfl) (small_sl (by omega)) (by show 5 < 6; decide) (fun x hx ρ1 hρ => by
      subst hρ
      refine ⟨by simp [evT, ev, truth], fun _ => ?_⟩
      rw [ev, ev_v (d := tp x) rfl, Option.bind_some]
      show ((keyD n (tp x)).bind fun k => (valD (kvP 0 P []) k).map fun d => (d, τ)) = _
      rw [keyD_tp h0 (hl x (hC x hx)), Option.bind_some, kvP_val P 0 [] x hP (hC x hx), Int.zero_add]
      rfl)
    rw [filter_yes] at h
    refine ev_bi1 h ?_
    show some (PyData.tuple _) = some (PyData.tuple _)
    rw [List.map_map]
    rfl
  unfold coBody
  rw [exs_nx e4]
  exact exs_ret' (ev_tup2 (lcE 1 A rfl hA bA) (lcE 2 B rfl hB bB))
theorem r_cov2 (k : Nat) {P A B : List Q} (hP : P.Nodup) (hl : ∀ x ∈ P, x.length = 2) (hA : ∀ x ∈ A, x ∈ P) (hB : ∀ x ∈ B, x ∈ P) (bP : P.length ≤ 1000) (bA : A.length ≤ 1000) (bB : B.length ≤ 1000) (τ : TA') :
    run pg (k + 1) 5 [lq P, lq A, lq B] τ = some (.tuple [tp (A.map fun x => (ixQ P x : Int)), tp (B.map fun x => (ixQ P x : Int))], τ) :=
  rg [dv' (lq P), dv' (lq A), dv' (lq B), none, none, none] rfl rfl rfl (co_body k (by decide) hP hl hA hB bP bA bB τ)
theorem r_cov4 (k : Nat) {P A B : List Q} (hP : P.Nodup) (hl : ∀ x ∈ P, x.length = 4) (hA : ∀ x ∈ A, x ∈ P) (hB : ∀ x ∈ B, x ∈ P) (bP : P.length ≤ 1000) (bA : A.length ≤ 1000) (bB : B.length ≤ 1000) (τ : TA') :
    run pg (k + 1) 6 [lq P, lq A, lq B] τ = some (.tuple [tp (A.map fun x => (ixQ P x : Int)), tp (B.map fun x => (ixQ P x : Int))], τ) :=
  rg [dv' (lq P), dv' (lq A), dv' (lq B), none, none, none] rfl rfl rfl (co_body k (by decide) hP hl hA hB bP bA bB τ)
/-! Gamma1 -/
theorem ex_dstQ {g : Glob TA'} {k i : Nat} {ke e : E} {ρ : Ev} {τ τ1 τ2 : TA'} {x : Q} {l : List Q} (h0 : k ≠ 0) (h : ev g e ρ τ = some (.bool true, τ1)) (hk : ev g ke ρ τ1 = some (tp x, τ2)) (hx : x.length = k) (hd : getD ρ i = some (k, kvQ l)) (hl : l.length ≤ 100000) : ex g (.dst i ke e) ρ τ = some (.nx (put ρ i (.od k (kvQ (addQ l x)))) τ2) := by
  rw [ex, h, Option.bind_some]
  dsimp only
  rw [hk, Option.bind_some, hd, Option.bind_some, keyD_tp h0 hx, Option.bind_some]
  dsimp only
  rw [if_pos (decide_eq_true (by rw [sizeLine_eq, kvQ_len]; omega)), put_kvQ]
theorem tcl_len (n : Int) (m : Q) : (tclL n m).length = m.length := by
  unfold tclL
  split <;> simp [negQ, modQ]
abbrev rF (n c : Int) (l : List Q) (d : Int) : List Q := if gI (gI c d) n = 1 then addQ l (tclL n [c, d]) else l
theorem rF_len (n c : Int) (l : List Q) (d : Int) : (rF n c l d).length ≤ l.length + 1 := by
  unfold rF
  split
  · exact addQ_len l _
  · omega
theorem c1_row (k : Nat) {n c : Int} (hn : 1 ≤ n) (τ : TA') : ∀ (ds : List Int) (l : List Q) (x5 : Option Sl), l.length + ds.length ≤ 20000 →
    ∃ y5, loopF (bindT (.name 5)) (exs (gl (k + 1)) f_cover_one_b0) (ds.map .int) [iv' n, odQ 2 l, iv' c, none, none, x5] τ = some (.nx [iv' n, odQ 2 (ds.foldl (rF n c) l), iv' c, none, none, y5] τ)
  | [], l, x5, _ => ⟨x5, rfl⟩
  | d :: ds, l, x5, hl => by
    rw [List.length_cons] at hl
    have e1 : exs (gl (k + 1)) f_cover_one_b0 [iv' n, odQ 2 l, iv' c, none, none, iv' d] τ = some (.nx [iv' n, odQ 2 (rF n c l d), iv' c, none, none, iv' d] τ) := by
      unfold f_cover_one_b0
      have t : evT (gl (k + 1)) (.cmp .eq (.bi .gcd (.cons (.bi .gcd (.cons (.v 2) (.cons (.v 5) .nil))) (.cons (.v 0) .nil))) (.int 1)) [iv' n, odQ 2 l, iv' c, none, none, iv' d] τ = some (decide (gI (gI c d) n = 1), τ) :=
        evT_b (ev_cmp (ev_bi2 (ev_bi2 (ev_v rfl) (ev_v rfl) (gI_bi c d)) (ev_v rfl) (gI_bi _ n)) ev_int (cop_eq_int _ _))
      by_cases h : gI (gI c d) n = 1
      · rw [decide_eq_true h] at t
        rw [exs_if t, if_pos rfl, exs_nx (ex_dstQ (k := 2) (x := tclL n [c, d]) (l := l) (by decide) (by rw [ev]) (ev_cal3 (ev_v (d := .int n) rfl) (ev_v rfl) (ev_v rfl) (by rw [gl_call]; exact r_sign k (by omega) c d τ)) (tcl_len _ _) rfl (by omega)), exs]
        unfold rF
        rw [if_pos h]
        rfl
      · rw [decide_eq_false h] at t
        rw [exs_if0 t, exs]
        unfold rF
        rw [if_neg h]
    obtain ⟨y5, e2⟩ := c1_row k hn τ ds (rF n c l d) (iv' d) (by have := rF_len n c l d; omega)
    refine ⟨y5, ?_⟩
    rw [List.map_cons, loopF]
    show (exs (gl (k + 1)) f_cover_one_b0 [iv' n, odQ 2 l, iv' c, none, none, iv' d] τ).bind _ = _
    rw [e1]
    exact e2
theorem oneRow_len (n c : Int) : ∀ (ds : List Int) (l : List Q), (ds.foldl (rF n c) l).length ≤ l.length + ds.length
  | [], l => by simp
  | d :: ds, l => by
    have h1 := oneRow_len n c ds (rF n c l d)
    have h2 := rF_len n c l d
    rw [List.foldl_cons, List.length_cons]
    omega
theorem c1_all (k : Nat) {n : Int} (hn : 1 ≤ n) (h24 : n ≤ 30) (τ : TA') : ∀ (cs : List Int) (l : List Q) (x2 x5 : Option Sl), l.length + 30 * cs.length ≤ 2000 →
    ∃ y2 y5, loopF (bindT (.name 2)) (exs (gl (k + 1)) f_cover_one_b1) (cs.map .int) [iv' n, odQ 2 l, x2, none, none, x5] τ = some (.nx [iv' n, odQ 2 (cs.foldl (fun l c => oneRow n c l) l), y2, none, none, y5] τ)
  | [], l, x2, x5, _ => ⟨x2, x5, rfl⟩
  | c :: cs, l, x2, x5, hl => by
    rw [List.length_cons] at hl
    obtain ⟨z5, e⟩ := c1_row k hn (c := c) τ (rangeI 0 n.toNat) l x5 (by rw [rangeI_len]; omega)
    have e1 : exs (gl (k + 1)) f_cover_one_b1 [iv' n, odQ 2 l, iv' c, none, none, x5] τ = some (.nx [iv' n, odQ 2 (oneRow n c l), iv' c, none, none, z5] τ) := by
      unfold f_cover_one_b1
      rw [exs_fr (rng_items (ev_v rfl) (by omega) (by omega)) e, exs]
      rfl
    obtain ⟨y2, y5, e2⟩ := c1_all k hn h24 τ cs (oneRow n c l) (iv' c) z5 (by
      have : (oneRow n c l).length ≤ l.length + (rangeI 0 n.toNat).length := oneRow_len n c _ l
      rw [rangeI_len] at this
      omega)
    refine ⟨y2, y5, ?_⟩
    rw [List.map_cons, loopF]
    show (exs (gl (k + 1)) f_cover_one_b1 [iv' n, odQ 2 l, iv' c, none, none, x5] τ).bind _ = _
    rw [e1]
    exact e2
theorem ev_dksQ {g : Glob TA'} {k i : Nat} {ρ : Ev} {τ : TA'} (h0 : k ≠ 0) (l : List Q) (h : getD ρ i = some (k, kvQ l)) (hl : ∀ x ∈ l, x ≠ []) : ev g (.dks i) ρ τ = some (lq (srtQ l), τ) := by
  have e : (kvQ l).map (fun kv => keyOut k kv.1) = l.map tp := by
    unfold kvQ
    rw [List.map_map]
    exact List.map_congr_left fun x _ => keyOut_tp h0 x
  rw [ev, h, Option.bind_some]
  dsimp only
  rw [e, sortable_tp hl, if_pos (show (decide (k ≠ 0) && true) = true by simp [h0]), sortD_tp]
theorem mem_two {x : Q} (h : x.length = 2) : ∃ c d, x = [c, d] := by
  match x, h with
  | [c, d], _ => exact ⟨c, d, rfl⟩
theorem mem_four {x : Q} (h : x.length = 4) : ∃ a b c d, x = [a, b, c, d] := by
  match x, h with
  | [a, b, c, d], _ => exact ⟨a, b, c, d, rfl⟩
theorem lc_pts (k : Nat) {n : Int} {P : List Q} (hl : ∀ x ∈ P, x.length = 2) (bP : P.length ≤ 1000) (l : List Q) (x4 : Option Sl) (e : E) (f : Q → Q) (τ : TA')
    (he : ∀ c d, [c, d] ∈ P → ev (gl k) e [iv' n, odQ 2 l, iv' c, dv' (lq P), x4, iv' d] τ = some (tp (f [c, d]), τ)) (x2 x5 : Option Sl) :
    ev (gl k) (.lc (.cons (.name 2) (.cons (.name 5) .nil)) (.seq (.v 3)) (.bl true) e) [iv' n, odQ 2 l, x2, dv' (lq P), x4, x5] τ = some (lq (P.map f), τ) := by
  have h := lcLoop_map (τ := τ) (step := fun d τ => (bindT (.cons (.name 2) (.cons (.name 5) .nil)) d (wipeE [iv' n, odQ 2 l, x2, dv' (lq P), x4, x5] (Tg.slots (.cons (.name 2) (.cons (.name 5) .nil))))).bind fun ρ1 => (ev (gl k) (.bl true) ρ1 τ).bind fun q => (truth q.1).bind fun b => if b then (ev (gl k) e ρ1 q.2).map fun r => (some r.1, r.2) else some (none, q.2)) tp (fun x => some (tp (f x))) P (by
    intro x hx
    obtain ⟨c, d, rfl⟩ := mem_two (hl x hx)
    rw [show bindT (.cons (.name 2) (.cons (.name 5) .nil)) (tp [c, d]) (wipeE [iv' n, odQ 2 l, x2, dv' (lq P), x4, x5] (Tg.slots (.cons (.name 2) (.cons (.name 5) .nil)))) = some [iv' n, odQ 2 l, iv' c, dv' (lq P), x4, iv' d] from rfl, Option.bind_some, ev, Option.bind_some]
    dsimp only
    rw [show truth (PyData.bool true) = some true from rfl, Option.bind_some, if_pos rfl, he c d hx]
    rfl)
  rw [ev, items_seq (ev_v (d := lq P) rfl) (xs := P.map tp) rfl, Option.bind_some]
  dsimp only
  rw [if_pos (by rw [List.length_map]; exact decide_eq_true (small_sl (by omega))), h, Option.map_some]
  show some (PyData.list _, τ) = some (PyData.list _, τ)
  rw [List.map_map]
  congr 3
  clear h he
  induction P with
  | nil => rfl
  | cons x P ih =>
    rw [List.filterMap_cons, List.map_cons]
    dsimp only
    exact congrArg (tp (f x) :: ·) (ih (fun y hy => hl y (List.mem_cons_of_mem _ hy)) (by rw [List.length_cons] at bP; omega))
theorem pts1_mem {n : Int} {x : Q} (h : x ∈ pts1 n) : x ∈ foundOne n := srtQ_mem.mp h
theorem r_cone (k : Nat) {n : Int} (hn : 1 ≤ n) (h30 : n ≤ 30) {P : List Q} {S R : List Int} (e : pts1 n = P) (h : Pts n 2 P S R) (τ : TA') : run pg (k + 2) 8 [.int n] τ = some (.tuple [tp S, tp R], τ) := by
  have bP : P.length ≤ 1000 := by have := h.lenS; have := h.c.big; omega
  refine rg [iv' n, none, none, none, none, none] rfl rfl rfl ?_
  unfold f_cover_one
  rw [exs_nx (ρ1 := [iv' n, odQ 2 [], none, none, none, none]) (τ1 := τ) (by simp [ex, put, kvQ])]
  obtain ⟨y2, y5, e1⟩ := c1_all k hn h30 τ (rangeI 0 n.toNat) [] none none (by rw [rangeI_len]; simp; omega)
  rw [exs_fr (rng_items (ev_v rfl) (by omega) (by omega)) e1]
  have ek : ev (gl (k + 1)) (.dks 1) [iv' n, odQ 2 (foundOne n), y2, none, none, y5] τ = some (lq P, τ) := by
    rw [← e]
    refine ev_dksQ (by decide) _ rfl fun x hx => ?_
    have := h.len x (by rw [← e]; exact srtQ_mem.mpr hx)
    intro z
    rw [z] at this
    cases this
  show exs (gl (k + 1)) _ [iv' n, odQ 2 (foundOne n), y2, none, none, y5] τ = _
  rw [exs_set' (by show 3 < 6; decide) ek]
  show exs (gl (k + 1)) _ [iv' n, odQ 2 (foundOne n), y2, dv' (lq P), none, y5] τ = _
  have n0 : n ≠ 0 := by omega
  rw [exs_set' (by show 4 < 6; decide) (lc_pts (k + 1) h.len bP (foundOne n) none _ (fun x => tclL n (stS x)) τ (fun c d _ => ev_cal3 (ev_v (d := .int n) rfl) (ev_v rfl) (ev_neg' (ev_v rfl)) (by rw [gl_call]; exact r_sign k n0 d (-c) τ)) y2 y5)]
  show exs (gl (k + 1)) _ [iv' n, odQ 2 (foundOne n), y2, dv' (lq P), dv' (lq (P.map fun x => tclL n (stS x))), y5] τ = _
  have e3 := lc_pts (k + 1) h.len bP (foundOne n) (dv' (lq (P.map fun x => tclL n (stS x)))) (.call 7 (.cons (.v 0) (.cons (.v 5) (.cons (.bin .sub (.v 5) (.v 2)) .nil)))) (fun x => tclL n (stR x)) τ (fun c d _ => ev_cal3 (ev_v (d := .int n) rfl) (ev_v rfl) (ev_bin (ev_v rfl) (ev_v rfl) (bop_sub' _ _)) (by rw [gl_call]; exact r_sign k n0 d (d - c) τ)) y2 y5
  have e4 := r_cov2 k h.nd h.len (A := P.map fun x => tclL n (stS x)) (B := P.map fun x => tclL n (stR x)) (fun x hx => by obtain ⟨y, hy, rfl⟩ := List.mem_map.mp hx; exact h.inS hy) (fun x hx => by obtain ⟨y, hy, rfl⟩ := List.mem_map.mp hx; exact h.inR hy) bP (by rw [List.length_map]; exact bP) (by rw [List.length_map]; exact bP) τ
  rw [List.map_map, List.map_map, show (List.map ((fun x => (ixQ P x : Int)) ∘ fun x => tclL n (stS x)) P) = S from h.s, show (List.map ((fun x => (ixQ P x : Int)) ∘ fun x => tclL n (stR x)) P) = R from h.r] at e4
  exact exs_ret' (ev_cal3 (ev_v (i := 3) (d := lq P) rfl) (ev_v (i := 4) (d := lq (P.map fun x => tclL n (stS x))) rfl) e3 (by rw [gl_call]; exact e4))

open Cv
theorem cop_eq_tp (x y : Q) : cop .eq (tp x) (tp y) = some (decide (x = y)) := by rw [cop_eq (shaped_tp x) (shaped_tp y), eqv_tp]
theorem cop_ne_tp (x y : Q) : cop .ne (tp x) (tp y) = some (!decide (x = y)) := by rw [cop_ne (shaped_tp x) (shaped_tp y), eqv_tp]
theorem exs_appL {g : Glob TA'} {i : Nat} {e : E} {r : Ss} {ρ : Ev} {τ τ1 : TA'} {d : PD} {xs : List PD} (h : ev g e ρ τ = some (d, τ1)) (hg : getO ρ i = some xs) (hl : xs.length ≤ 90000) : exs g (.cons (.app i e) r) ρ τ = exs g r (put ρ i (.ow (xs ++ [d]))) τ1 := exs_nx (by
  rw [ex, h, Option.bind_some, hg]
  dsimp only
  rw [if_pos (decide_eq_true (by rw [sizeLine_eq]; omega))])
theorem sm30 {x : Int} (h : x.natAbs ≤ 1000) : Sm 4096 x := by unfold Sm; exact Nat.lt_of_le_of_lt h (Nat.lt_of_lt_of_le (show 1000 < 2 ^ 10 by decide) (Nat.pow_le_pow_right (by decide) (by decide)))
theorem flatMap_map' {α β γ : Type} (f : α → List β) (g : β → γ) : ∀ l : List α, l.flatMap (fun a => (f a).map g) = (l.flatMap f).map g
  | [] => rfl
  | a :: l => by rw [List.flatMap_cons, List.flatMap_cons, List.map_append, flatMap_map' f g l]
theorem flat_len {α β : Type} {f : α → List β} {B : Nat} : ∀ {l : List α}, (∀ a ∈ l, (f a).length ≤ B) → (l.flatMap f).length ≤ B * l.length
  | [], _ => by simp
  | a :: l, h => by
    have h1 := h a List.mem_cons_self
    have h2 := flat_len (f := f) (B := B) (l := l) fun b hb => h b (List.mem_cons_of_mem _ hb)
    rw [List.flatMap_cons, List.length_append, List.length_cons, Nat.mul_add]
    omega
/-! the pairs that are their own least -/
theorem onesC_len (n c d : Int) : (onesC n c d).length ≤ 1 := by
  unfold onesC
  split <;> simp
abbrev onesR (n c : Int) : List Q := (rangeI 0 n.toNat).flatMap fun d => onesC n c d
theorem ones_in (k : Nat) {n c : Int} (hn : 1 ≤ n) (h30 : n ≤ 30) (c0 : 0 ≤ c) (c1 : c < n) (told : List PD) (x3 : Option Sl) (hl : told.length ≤ 2000) (τ : TA') :
    ∃ y3, exs (gl (k + 1)) f_law_ones_b1 [iv' n, some (.ow told), iv' c, x3] τ = some (.nx [iv' n, some (.ow (told ++ (onesR n c).map tp)), iv' c, y3] τ) := by
  unfold f_law_ones_b1
  obtain ⟨y3, e⟩ := loop_app (τ := τ) (bd := bindT (.name 3)) (body := exs (gl (k + 1)) f_law_ones_b0) (fun told s => [iv' n, some (.ow told), iv' c, s]) PyData.int (fun d => (onesC n c d).map tp) 1 5000 (rangeI 0 n.toNat) told x3 (by rw [rangeI_len]; omega) (fun d _ => by rw [List.length_map]; exact onesC_len n c d) (fun d hd told s hl => by
    have hd := rangeI_mem hd
    refine ⟨iv' d, iv' d, rfl, ?_⟩
    have v0 : ev (gl (k + 1)) (.v 0) [iv' n, some (.ow told), iv' c, iv' d] τ = some (.int n, τ) := ev_v rfl
    have v2 : ev (gl (k + 1)) (.v 2) [iv' n, some (.ow told), iv' c, iv' d] τ = some (.int c, τ) := ev_v rfl
    have v3 : ev (gl (k + 1)) (.v 3) [iv' n, some (.ow told), iv' c, iv' d] τ = some (.int d, τ) := ev_v rfl
    have t1 := evT_b (ev_cmp (ev_cal2 (f := 14) (ev_cal2 (f := 14) v2 v3 (by rw [gl_call]; exact r_lgcd k c d (sm30 (by omega)) τ)) v0 (by rw [gl_call]; exact r_lgcd k _ n (sm30 (by omega)) τ)) (ev_int (i := 1)) (cop_eq_int _ _))
    have et := ev_tup2 v2 v3
    have t2 := evT_b (ev_cmp (ev_cal3 (f := 22) v0 v2 v3 (by rw [gl_call]; exact r_pair k (n := n) (by omega) c d τ)) et (cop_eq_tp (tclL n [c, d]) [c, d]))
    have tt := evT_and (b := .cmp .eq (.call 22 (.cons (.v 0) (.cons (.v 2) (.cons (.v 3) .nil)))) (.tup (.cons (.v 2) (.cons (.v 3) .nil)))) (es := .nil) t1
    rw [evT_and1, t2] at tt
    unfold f_law_ones_b0
    show exs (gl (k + 1)) _ [iv' n, some (.ow told), iv' c, iv' d] τ = _
    unfold onesC
    by_cases h1 : gI (gI c d) n = 1
    · rw [decide_eq_true h1, if_pos rfl] at tt
      by_cases h2 : tclL n [c, d] = [c, d]
      · rw [decide_eq_true h2] at tt
        rw [exs_if tt, if_pos rfl, exs_appL et rfl (by omega), exs, if_pos ⟨h1, h2⟩]
        rfl
      · rw [decide_eq_false h2] at tt
        rw [exs_if0 tt, exs, if_neg (fun z => h2 z.2), List.map_nil, List.append_nil]
    · rw [decide_eq_false h1, if_neg (by decide)] at tt
      rw [exs_if0 tt, exs, if_neg (fun z => h1 z.1), List.map_nil, List.append_nil])
  refine ⟨y3, ?_⟩
  rw [exs_fr (rng_items (ev_v rfl) (by omega) (by omega)) e, exs, flatMap_map']
theorem r_ones (k : Nat) {n : Int} (hn : 1 ≤ n) (h30 : n ≤ 30) (τ : TA') : run pg (k + 2) 23 [.int n] τ = some (lq (ones n), τ) := by
  refine rg [iv' n, none, none, none] rfl rfl rfl ?_
  unfold f_law_ones
  rw [exs_own' (by show 1 < 4; decide) (ev_lst evs_nil (by simp))]
  show exs (gl (k + 1)) _ [iv' n, some (.ow []), none, none] τ = _
  obtain ⟨⟨y2, y3⟩, e⟩ := loop_app (τ := τ) (bd := bindT (.name 2)) (body := exs (gl (k + 1)) f_law_ones_b1) (fun told (s : Option Sl × Option Sl) => [iv' n, some (.ow told), s.1, s.2]) PyData.int (fun c => (onesR n c).map tp) 30 2000 (rangeI 0 n.toNat) [] (none, none) (by rw [rangeI_len]; simp; omega) (fun c _ => by
    rw [List.length_map]
    have : (onesR n c).length ≤ 1 * (rangeI 0 n.toNat).length := flat_len (f := fun d => onesC n c d) (B := 1) (l := rangeI 0 n.toNat) fun d _ => onesC_len n c d
    rw [rangeI_len] at this
    omega) (fun c hc told s hl => by
    have hc := rangeI_mem hc
    obtain ⟨y3, e⟩ := ones_in k hn h30 (c := c) (by omega) (by omega) told s.2 (by omega) τ
    exact ⟨(iv' c, s.2), (iv' c, y3), rfl, e⟩)
  rw [exs_fr (rng_items (ev_v rfl) (by omega) (by omega)) e, flatMap_map', List.nil_append, exs_frz (xs := (ones n).map tp) rfl]
  exact exs_ret' (ev_v rfl)
/-! led by words -/
def ltI (S R : List Int) (i : Int) : Lt → Int
  | .s => ixI S i
  | .r => ixI R i
  | .R => ixI R (ixI R i)
def ledI (S R : List Int) (i : Int) (l : List Lt) : Int := l.foldl (ltI S R) i
theorem ixI_at {S : List Int} {i : Int} (h0 : 0 ≤ i) (h1 : i < S.length) : pix (tp S) (.int i) = some (.int (ixI S i)) ∧ ixI S i ∈ S := by
  obtain ⟨j, rfl⟩ : ∃ j : Nat, i = j := ⟨i.toNat, by omega⟩
  have hj : j < S.length := by omega
  have e : S[j]? = some S[j] := List.getElem?_eq_getElem hj
  have e2 : ixI S j = S[j] := by unfold ixI; rw [Int.toNat_natCast, e]; rfl
  refine ⟨?_, by rw [e2]; exact List.getElem_mem hj⟩
  rw [e2]
  have h := pix_nat (l := S.map .int) (j := j) (d := .int S[j]) (by rw [List.getElem?_map, e]; rfl)
  exact h
abbrev cvD (S R : List Int) : PD := .tuple [tp S, tp R]
theorem cv0 (S R : List Int) : pix (cvD S R) (.int 0) = some (tp S) := rfl
theorem cv1 (S R : List Int) : pix (cvD S R) (.int 1) = some (tp R) := rfl
theorem lt_s (t : Lt) : cop .eq (.str t.str) (.str "s") = some (decide (t = .s)) := by cases t <;> decide +kernel
theorem lt_r (t : Lt) : cop .eq (.str t.str) (.str "r") = some (decide (t = .r)) := by cases t <;> decide +kernel
theorem led_b (k : Nat) {S R : List Int} (h : Cov S R) {i : Int} (h0 : 0 ≤ i) (h1 : i < S.length) (w : PD) (t : Lt) (τ : TA') :
    exs (gl k) f_law_led_b0 [dv' (cvD S R), iv' i, dv' w, dv' (.str t.str)] τ = some (.nx [dv' (cvD S R), iv' (ltI S R i t), dv' w, dv' (.str t.str)] τ) ∧ 0 ≤ ltI S R i t ∧ ltI S R i t < S.length := by
  have hR : i < R.length := by rw [h.len]; exact h1
  obtain ⟨a1, a2⟩ := ixI_at h0 h1
  obtain ⟨b1, b2⟩ := ixI_at h0 hR
  have b3 := h.inR b2
  obtain ⟨c1, c2⟩ := ixI_at (S := R) b3.1 (by rw [h.len]; exact b3.2)
  have vc : ∀ {c s : PD}, ev (gl k) (.v 0) [dv' (cvD S R), dv' c, dv' w, dv' s] τ = some (cvD S R, τ) := ev_v rfl
  have v1 : ev (gl k) (.v 1) [dv' (cvD S R), iv' i, dv' w, dv' (.str t.str)] τ = some (.int i, τ) := ev_v rfl
  have v3 : ev (gl k) (.v 3) [dv' (cvD S R), iv' i, dv' w, dv' (.str t.str)] τ = some (.str t.str, τ) := ev_v rfl
  have es : ∀ z : Str, ev (gl k) (.str z) [dv' (cvD S R), iv' i, dv' w, dv' (.str t.str)] τ = some (.str z, τ) := fun z => by rw [ev]
  have eS := ev_ix' (ev_ix' vc (ev_int (i := 0)) (cv0 S R)) v1 a1
  have eR := ev_ix' (ev_ix' vc (ev_int (i := 1)) (cv1 S R)) v1 b1
  have eRR := ev_ix' (ev_ix' vc (ev_int (i := 1)) (cv1 S R)) eR c1
  have t1 := evT_b (ev_cmp v3 (es "s") (lt_s t))
  have t2 := ev_cmp v3 (es "r") (lt_r t)
  unfold f_law_led_b0
  cases t with
  | s =>
    rw [exs_if t1]
    refine ⟨?_, h.inS a2⟩
    show (exs (gl k) _ _ _).bind _ = _
    rw [exs_set' (by show 1 < 4; decide) eS, exs]
    rfl
  | r =>
    rw [exs_if t1]
    refine ⟨?_, h.inR b2⟩
    show (exs (gl k) _ _ _).bind _ = _
    rw [exs_set' (by show 1 < 4; decide) ((ev_ite t2).trans ((if_pos (by decide)).trans eR)), exs]
    rfl
  | R =>
    rw [exs_if t1]
    refine ⟨?_, h.inR c2⟩
    show (exs (gl k) _ _ _).bind _ = _
    rw [exs_set' (by show 1 < 4; decide) ((ev_ite t2).trans ((if_neg (by decide)).trans eRR)), exs]
    rfl
theorem led_loop (k : Nat) {S R : List Int} (h : Cov S R) (w : PD) (τ : TA') : ∀ (l : List Lt) (i : Int) (x3 : Option Sl), 0 ≤ i → i < S.length →
    (∃ y3, loopF (bindT (.name 3)) (exs (gl k) f_law_led_b0) (l.map fun t => .str t.str) [dv' (cvD S R), iv' i, dv' w, x3] τ = some (.nx [dv' (cvD S R), iv' (ledI S R i l), dv' w, y3] τ)) ∧ 0 ≤ ledI S R i l ∧ ledI S R i l < S.length
  | [], i, x3, h0, h1 => ⟨⟨x3, rfl⟩, h0, h1⟩
  | t :: l, i, x3, h0, h1 => by
    obtain ⟨e1, g0, g1⟩ := led_b k h h0 h1 w t τ
    obtain ⟨⟨y3, e2⟩, f0, f1⟩ := led_loop k h w τ l (ltI S R i t) (dv' (.str t.str)) g0 g1
    refine ⟨⟨y3, ?_⟩, f0, f1⟩
    rw [List.map_cons, loopF]
    show (exs (gl k) f_law_led_b0 [dv' (cvD S R), iv' i, dv' w, dv' (.str t.str)] τ).bind _ = _
    rw [e1]
    exact e2
theorem r_lled (k : Nat) {S R : List Int} (h : Cov S R) (l : List Lt) (hl : l.length ≤ 1000) {i : Int} (h0 : 0 ≤ i) (h1 : i < S.length) (τ : TA') : run pg (k + 1) 18 [cvD S R, .int i, .str (wd l)] τ = some (.int (ledI S R i l), τ) := by
  refine rg [dv' (cvD S R), iv' i, dv' (.str (wd l)), none] rfl rfl rfl ?_
  unfold f_law_led
  obtain ⟨⟨y3, e⟩, _⟩ := led_loop k h (.str (wd l)) τ l i none h0 h1
  rw [exs_fr (items_seq (ev_v (d := .str (wd l)) rfl) (itemsOf_wd (small_sl (by omega)))) e]
  exact exs_ret' (ev_v rfl)
theorem str_ss : ("ss" : Str) = wd [.s, .s] := by decide +kernel
theorem str_rrr : ("rrr" : Str) = wd [.r, .r, .r] := by decide +kernel
/-! what the law asks of a covering -/
theorem cov_perm (k : Nat) {S R : List Int} (h : Cov S R) {P : List Int} (hp : sI P = rangeI 0 S.length) (hl : P.length = S.length) (x2 x3 x4 x5 x6 : Option Sl) (τ : TA') :
    exs (gl k) f_law_is_cover_b0 [dv' (cvD S R), dv' (tp P), x2, x3, x4, x5, x6] τ = some (.nx [dv' (cvD S R), dv' (tp P), x2, x3, x4, x5, x6] τ) := by
  have hb := h.big
  have v0 : ev (gl k) (.v 0) [dv' (cvD S R), dv' (tp P), x2, x3, x4, x5, x6] τ = some (cvD S R, τ) := ev_v rfl
  have v1 : ev (gl k) (.v 1) [dv' (cvD S R), dv' (tp P), x2, x3, x4, x5, x6] τ = some (tp P, τ) := ev_v rfl
  have l1 : biD .len [tp P] = some (.int (P.length : Nat)) := by show some (PyData.int ((P.map PyData.int).length : Nat)) = _; rw [List.length_map]
  have l0 : biD .len [tp S] = some (.int (S.length : Nat)) := by show some (PyData.int ((S.map PyData.int).length : Nat)) = _; rw [List.length_map]
  unfold f_law_is_cover_b0
  have t1 : evT (gl k) (.ors (.cons (.nt (.bi .isTuple (.cons (.v 1) .nil))) (.cons (.cmp .ne (.bi .len (.cons (.v 1) .nil)) (.bi .len (.cons (.ix (.v 0) (.int 0)) .nil))) .nil))) [dv' (cvD S R), dv' (tp P), x2, x3, x4, x5, x6] τ = some (false, τ) := by
    rw [evT_or (evT_nt (c := true) (evT_b (ev_bi1 v1 rfl)))]
    show evT _ _ _ _ = _
    rw [evT_or1, evT_b (ev_cmp (ev_bi1 v1 l1) (ev_bi1 (ev_ix' v0 (ev_int (i := 0)) (cv0 S R)) l0) (cop_ne_int _ _)), hl]
    simp
  have e2 := ev_lcf (g := gl k) (i := 6) (it := .seq (.v 1)) (c := .ors (.cons (.nt (.bi .isInt (.cons (.v 6) .nil))) (.cons (.bi .isBool (.cons (.v 6) .nil)) .nil))) (elt := .v 6) (ρ := [dv' (cvD S R), dv' (tp P), x2, x3, x4, x5, x6]) (τ := τ) (τ' := τ) P .int (fun _ => false) .int (items_seq v1 rfl) (small_sl (by omega)) (by show 6 < 7; decide) (fun x _ ρ1 hρ => by
    subst hρ
    refine ⟨?_, fun z => by cases z⟩
    have v6 : ev (gl k) (.v 6) [dv' (cvD S R), dv' (tp P), x2, x3, x4, x5, iv' x] τ = some (.int x, τ) := ev_v rfl
    show evT _ _ [dv' (cvD S R), dv' (tp P), x2, x3, x4, x5, iv' x] _ = _
    rw [evT_or (evT_nt (c := true) (evT_b (ev_bi1 v6 rfl)))]
    show evT _ _ _ _ = _
    rw [evT_or1, evT_b (ev_bi1 v6 (b := .isBool) (r := .bool false) rfl)])
  rw [filter_no] at e2
  have t2 := evT_b (ev_cmp e2 (ev_lst (ds := []) evs_nil (by simp)) (show cop .ne (.list []) (.list []) = some false by decide +kernel))
  have es : biD .sorted [tp P] = some (.list ((sI P).map .int)) := by
    show (if sortable (P.map .int) then some (PyData.list (sortD (P.map .int))) else none) = _
    have hi : (P.map PyData.int).all isInt = true := by
      rw [List.all_eq_true]
      intro d hd
      obtain ⟨a, _, rfl⟩ := List.mem_map.mp hd
      rfl
    rw [if_pos (by unfold sortable; rw [hi]; simp), sortD_ints]
  have er : ev (gl k) (.lr false (.bi .len (.cons (.v 1) .nil))) [dv' (cvD S R), dv' (tp P), x2, x3, x4, x5, x6] τ = some (.list ((rangeI 0 S.length).map .int), τ) := by
    rw [ev, ev_bi1 v1 l1, Option.bind_some]
    dsimp only
    rw [hl, if_pos (by rw [small_smallR (by omega) (by omega), show okLen (S.length : Int).toNat = true from decide_eq_true (small_sl (by omega))]; rfl), rangeD_I, Int.toNat_natCast]
    rfl
  have t3 : evT (gl k) (.ors (.cons (.cmp .ne (.bi .sorted (.cons (.v 1) .nil)) (.lr false (.bi .len (.cons (.v 1) .nil)))) (.cons (.cmp .eq (.bi .len (.cons (.v 1) .nil)) (.int 0)) .nil))) [dv' (cvD S R), dv' (tp P), x2, x3, x4, x5, x6] τ = some (false, τ) := by
    have c : cop .ne (.list ((sI P).map .int)) (.list ((rangeI 0 S.length).map .int)) = some false := by
      have sh : ∀ l : List Int, SeqAt.shaped (.list (l.map .int)) = true := fun l => by
        have := shaped_tp l
        exact this
      rw [cop_ne (sh _) (sh _), hp]
      have := eqv_tp (rangeI 0 S.length) (rangeI 0 S.length)
      rw [decide_eq_true rfl] at this
      have e : PyData.eqv (.list ((rangeI 0 S.length).map .int)) (.list ((rangeI 0 S.length).map .int)) = true := this
      rw [e]
      rfl
    rw [evT_or (evT_b (ev_cmp (ev_bi1 v1 es) er c)), if_neg (by decide), evT_or1, evT_b (ev_cmp (ev_bi1 v1 l1) (ev_int (i := 0)) (cop_eq_int _ _)), hl]
    have := h.pos
    rw [decide_eq_false (by omega)]
  rw [exs_if0 t1, exs_if0 t2, exs_if0 t3, exs]

open Cv
abbrev kvI (l : List Int) : List (List L2.Key × PD) := l.map fun i => ([Sum.inl i], .bool true)
theorem any_kvI (l : List Int) (x : Int) : (kvI l).any (fun kv => decide (kv.1 = [Sum.inl x])) = decide (x ∈ l) := by
  induction l with
  | nil => rfl
  | cons y l ih =>
    rw [show kvI (y :: l) = ([Sum.inl y], PyData.bool true) :: kvI l from rfl, List.any_cons, ih, Bool.eq_iff_iff, Bool.or_eq_true, decide_eq_true_eq, decide_eq_true_eq, decide_eq_true_eq, List.mem_cons]
    constructor
    · rintro (h | h)
      · injection h with h1
        injection h1 with h2
        exact .inl h2.symm
      · exact .inr h
    · rintro (h | h)
      · exact .inl (by rw [h])
      · exact .inr h
theorem put_kvI {l : List Int} {x : Int} (h : x ∉ l) : putD (kvI l) [Sum.inl x] (.bool true) = kvI (l ++ [x]) := by
  unfold putD
  rw [any_kvI, decide_eq_false h, if_neg (by decide), show kvI (l ++ [x]) = kvI l ++ kvI [x] from List.map_append]
  rfl
theorem val_kvI (l : List Int) (x : Int) : (valD (kvI l) [Sum.inl x]).isSome = decide (x ∈ l) := by
  rw [← any_kvI]
  unfold valD
  rw [Option.isSome_map, List.isSome_find?]
abbrev icE (S R : List Int) (p : PD) (seen : List Int) (x5 x6 : Option Sl) : Ev := [dv' (cvD S R), dv' p, iv' (S.length : Nat), some (.ow (seen.map .int)), some (.od 0 (kvI seen)), x5, x6]
theorem cov_b1 (k : Nat) {S R P : List Int} (hl : P.length = S.length) (hb : S.length ≤ 400) {seen : List Int} (h2 : seen.length ≤ 1000) {a : Int} (a0 : 0 ≤ a) (a1 : a < seen.length) (hs : ∀ x ∈ seen, 0 ≤ x ∧ x < S.length) (x6 : Option Sl) (τ : TA') :
    exs (gl k) f_law_is_cover_b1 (icE S R (tp P) seen (iv' a) x6) τ = some (.nx (icE S R (tp P) (addI seen (ixI P (ixI seen a))) (iv' a) x6) τ) := by
  obtain ⟨e1, m1⟩ := ixI_at a0 a1
  have b1 := hs _ m1
  obtain ⟨e2, m2⟩ := ixI_at (S := P) b1.1 (by rw [hl]; exact b1.2)
  have e1' : pix (.list (seen.map .int)) (.int a) = some (.int (ixI seen a)) := e1
  have ee : ev (gl k) (.ix (.v 1) (.ix (.pk 3) (.v 5))) (icE S R (tp P) seen (iv' a) x6) τ = some (.int (ixI P (ixI seen a)), τ) :=
    ev_ix' (ev_v (d := tp P) rfl) (ev_ix' (ev_pk (d := .list (seen.map .int)) rfl) (ev_v (d := .int a) rfl) e1') e2
  have t : evT (gl k) (.din true 4 (.ix (.v 1) (.ix (.pk 3) (.v 5)))) (icE S R (tp P) seen (iv' a) x6) τ = some (!decide (ixI P (ixI seen a) ∈ seen), τ) := by
    refine evT_b ?_
    rw [ev, ee, Option.bind_some]
    show ((keyD 0 (.int (ixI P (ixI seen a)))).map fun k => (PyData.bool ((valD (kvI seen) k).isSome != true), τ)) = _
    show some (PyData.bool ((valD (kvI seen) [Sum.inl (ixI P (ixI seen a))]).isSome != true), τ) = _
    rw [val_kvI]
    cases decide (ixI P (ixI seen a) ∈ seen) <;> rfl
  unfold f_law_is_cover_b1 addI
  by_cases h : ixI P (ixI seen a) ∈ seen
  · rw [decide_eq_true h] at t
    rw [exs_if0 t, exs, if_pos h]
  · rw [decide_eq_false h] at t
    rw [exs_if t, if_neg h]
    show (exs (gl k) _ _ _).bind _ = _
    have e3 : ex (gl k) (.dst 4 (.ix (.v 1) (.ix (.pk 3) (.v 5))) (.bl true)) (icE S R (tp P) seen (iv' a) x6) τ = some (.nx [dv' (cvD S R), dv' (tp P), iv' (S.length : Nat), some (.ow (seen.map .int)), some (.od 0 (kvI (seen ++ [ixI P (ixI seen a)]))), iv' a, x6] τ) := by
      rw [ex, show ev (gl k) (.bl true) (icE S R (tp P) seen (iv' a) x6) τ = some (.bool true, τ) from by rw [ev], Option.bind_some]
      dsimp only
      rw [ee, Option.bind_some]
      show (Option.bind (some (0, kvI seen)) _) = _
      rw [Option.bind_some]
      show (Option.bind (some [Sum.inl (ixI P (ixI seen a))]) _) = _
      rw [Option.bind_some]
      show (if decide ((kvI seen).length < sizeLine) = true then _ else _) = _
      rw [if_pos (decide_eq_true (by rw [sizeLine_eq, List.length_map]; omega)), put_kvI h]
      rfl
    have ee2 : ev (gl k) (.ix (.v 1) (.ix (.pk 3) (.v 5))) [dv' (cvD S R), dv' (tp P), iv' (S.length : Nat), some (.ow (seen.map .int)), some (.od 0 (kvI (seen ++ [ixI P (ixI seen a)]))), iv' a, x6] τ = some (.int (ixI P (ixI seen a)), τ) :=
      ev_ix' (ev_v (d := tp P) rfl) (ev_ix' (ev_pk (d := .list (seen.map .int)) rfl) (ev_v (d := .int a) rfl) e1') e2
    rw [exs_nx e3, exs_app' ee2 rfl (by rw [List.length_map]; exact h2), exs]
    show some (Out.nx [dv' (cvD S R), dv' (tp P), iv' (S.length : Nat), some (.ow (seen.map .int ++ [.int (ixI P (ixI seen a))])), some (.od 0 (kvI (seen ++ [ixI P (ixI seen a)]))), iv' a, x6] τ) = _
    rw [show seen.map PyData.int ++ [.int (ixI P (ixI seen a))] = (seen ++ [ixI P (ixI seen a)]).map PyData.int from by rw [List.map_append]; rfl]
theorem addI_mem {l : List Int} {x y : Int} : y ∈ addI l x ↔ y ∈ l ∨ y = x := by
  unfold addI
  split
  · rename_i h
    exact ⟨.inl, fun z => z.elim id fun z => by rw [z]; exact h⟩
  · rw [List.mem_append, List.mem_singleton]
theorem addI_len (l : List Int) (x : Int) : (addI l x).length ≤ l.length + 1 ∧ l.length ≤ (addI l x).length := by
  unfold addI
  split <;> simp
theorem addI_ix {l : List Int} {x a : Int} (a0 : 0 ≤ a) (a1 : a < l.length) : ixI (addI l x) a = ixI l a := by
  unfold addI
  split
  · rfl
  · unfold ixI
    rw [List.getElem?_append_left (by omega)]
theorem cov_b2 (k : Nat) {S R : List Int} (h : Cov S R) {seen : List Int} (h2 : seen.length ≤ 900) (hs : ∀ x ∈ seen, 0 ≤ x ∧ x < S.length) {a : Int} (a0 : 0 ≤ a) (p : PD) (x6 : Option Sl) (τ : TA') :
    (∃ p', exs (gl k) f_law_is_cover_b2 (icE S R p seen (iv' a) x6) τ = some (.nx (icE S R p' (bfsS S R seen a) (iv' a) x6) τ)) ∧ (bfsS S R seen a).length ≤ seen.length + 2 ∧ ∀ x ∈ bfsS S R seen a, 0 ≤ x ∧ x < S.length := by
  have t : evT (gl k) (.cmp .lt (.v 5) (.bi .len (.cons (.pk 3) .nil))) (icE S R p seen (iv' a) x6) τ = some (decide (a < seen.length), τ) :=
    evT_b (ev_cmp (ev_v (d := .int a) rfl) (ev_bi1 (ev_pk (d := .list (seen.map .int)) rfl) (show biD .len [.list (seen.map .int)] = some (.int (seen.length : Nat)) from by show some (PyData.int ((seen.map PyData.int).length : Nat)) = _; rw [List.length_map])) (clt_int _ _))
  unfold f_law_is_cover_b2 bfsS
  by_cases ha : a < seen.length
  · rw [decide_eq_true ha] at t
    have m0 := (ixI_at a0 ha).2
    have m1 := hs _ m0
    have m2 := h.inS (ixI_at (S := S) m1.1 m1.2).2
    have hR : ixI seen a < R.length := by rw [h.len]; exact m1.2
    have m3 := h.inR (ixI_at (S := R) m1.1 hR).2
    have hs1 : ∀ x ∈ addI seen (ixI S (ixI seen a)), 0 ≤ x ∧ x < S.length := fun x hx => (addI_mem.mp hx).elim (hs x) fun z => by rw [z]; exact m2
    have n1 := addI_len seen (ixI S (ixI seen a))
    have e1 := cov_b1 k (P := S) (S := S) (R := R) rfl h.big (seen := seen) (by omega) a0 ha hs x6 τ
    have e2 := cov_b1 k (P := R) (S := S) (R := R) h.len h.big (seen := addI seen (ixI S (ixI seen a))) (by omega) a0 (by omega) hs1 x6 τ
    have n2 := addI_len (addI seen (ixI S (ixI seen a))) (ixI R (ixI (addI seen (ixI S (ixI seen a))) a))
    rw [if_pos ha]
    refine ⟨⟨tp R, ?_⟩, by omega, fun x hx => (addI_mem.mp hx).elim (hs1 x) fun z => by rw [z, addI_ix a0 ha]; exact m3⟩
    rw [exs_if t]
    show (exs (gl k) _ _ _).bind _ = _
    have lp : loopF (bindT (.name 1)) (exs (gl k) f_law_is_cover_b1) [tp S, tp R] (icE S R p seen (iv' a) x6) τ = some (.nx (icE S R (tp R) (addI (addI seen (ixI S (ixI seen a))) (ixI R (ixI (addI seen (ixI S (ixI seen a))) a))) (iv' a) x6) τ) := by
      rw [loopF]
      show (exs (gl k) f_law_is_cover_b1 (icE S R (tp S) seen (iv' a) x6) τ).bind _ = _
      rw [e1, Option.bind_some]
      dsimp only
      rw [loopF]
      show (exs (gl k) f_law_is_cover_b1 (icE S R (tp R) (addI seen (ixI S (ixI seen a))) (iv' a) x6) τ).bind _ = _
      rw [e2]
      rfl
    rw [exs_fr (items_seq (ev_v (d := cvD S R) rfl) rfl) lp, exs]
    rfl
  · rw [decide_eq_false ha] at t
    rw [if_neg ha]
    exact ⟨⟨p, by rw [exs_if0 t, exs]⟩, by omega, hs⟩
theorem cov_bfs (k : Nat) {S R : List Int} (h : Cov S R) (x6 : Option Sl) (τ : TA') : ∀ (as : List Int) (seen : List Int) (p : PD) (x5 : Option Sl), seen.length + 2 * as.length ≤ 900 → (∀ a ∈ as, 0 ≤ a) → (∀ x ∈ seen, 0 ≤ x ∧ x < S.length) →
    ∃ p' y5, loopF (bindT (.name 5)) (exs (gl k) f_law_is_cover_b2) (as.map .int) (icE S R p seen x5 x6) τ = some (.nx (icE S R p' (as.foldl (bfsS S R) seen) y5 x6) τ)
  | [], seen, p, x5, _, _, _ => ⟨p, x5, rfl⟩
  | a :: as, seen, p, x5, hl, ha, hs => by
    rw [List.length_cons] at hl
    obtain ⟨⟨p1, e1⟩, l1, s1⟩ := cov_b2 k h (seen := seen) (by omega) hs (ha a List.mem_cons_self) p x6 τ
    obtain ⟨p', y5, e2⟩ := cov_bfs k h x6 τ as (bfsS S R seen a) p1 (iv' a) (by omega) (fun b hb => ha b (List.mem_cons_of_mem _ hb)) s1
    refine ⟨p', y5, ?_⟩
    rw [List.map_cons, loopF]
    show (exs (gl k) f_law_is_cover_b2 (icE S R p seen (iv' a) x6) τ).bind _ = _
    rw [e1]
    exact e2
theorem r_iscov (k : Nat) {S R : List Int} (h : Cov S R) (τ : TA') : run pg (k + 2) 19 [cvD S R] τ = some (.bool true, τ) := by
  have hb := h.big
  have hp := h.pos
  refine rg [dv' (cvD S R), none, none, none, none, none, none] rfl rfl rfl ?_
  unfold f_law_is_cover
  have t1 : evT (gl (k + 1)) (.ors (.cons (.nt (.bi .isTuple (.cons (.v 0) .nil))) (.cons (.cmp .ne (.bi .len (.cons (.v 0) .nil)) (.int 2)) .nil))) [dv' (cvD S R), none, none, none, none, none, none] τ = some (false, τ) := by
    rw [evT_or (evT_nt (c := true) (evT_b (ev_bi1 (ev_v (d := cvD S R) rfl) rfl)))]
    show evT _ _ _ _ = _
    rw [evT_or1, evT_b (ev_cmp (ev_bi1 (r := .int 2) (ev_v (d := cvD S R) rfl) rfl) (ev_int (i := 2)) (cop_ne_int _ _))]
    rfl
  have lp : loopF (bindT (.name 1)) (exs (gl (k + 1)) f_law_is_cover_b0) [tp S, tp R] [dv' (cvD S R), none, none, none, none, none, none] τ = some (.nx [dv' (cvD S R), dv' (tp R), none, none, none, none, none] τ) := by
    rw [loopF]
    show (exs (gl (k + 1)) f_law_is_cover_b0 [dv' (cvD S R), dv' (tp S), none, none, none, none, none] τ).bind _ = _
    rw [cov_perm (k + 1) h h.s rfl, Option.bind_some]
    dsimp only
    rw [loopF]
    show (exs (gl (k + 1)) f_law_is_cover_b0 [dv' (cvD S R), dv' (tp R), none, none, none, none, none] τ).bind _ = _
    rw [cov_perm (k + 1) h h.r h.len]
    rfl
  have l0 : biD .len [tp S] = some (.int (S.length : Nat)) := by show some (PyData.int ((S.map PyData.int).length : Nat)) = _; rw [List.length_map]
  rw [exs_if0 t1, exs_fr (items_seq (ev_v (d := cvD S R) rfl) rfl) lp, exs_set' (by show 2 < 7; decide) (ev_bi1 (ev_ix' (ev_v (d := cvD S R) rfl) (ev_int (i := 0)) (cv0 S R)) l0)]
  show exs (gl (k + 1)) _ [dv' (cvD S R), dv' (tp R), iv' (S.length : Nat), none, none, none, none] τ = _
  have es : ∀ (z : Str) (ρ : Ev), ev (gl (k + 1)) (.str z) ρ τ = some (.str z, τ) := fun z ρ => by rw [ev]
  have e2 := ev_lcf (g := gl (k + 1)) (i := 6) (it := .rng1 (.v 2)) (c := .ors (.cons (.cmp .ne (.call 18 (.cons (.v 0) (.cons (.v 6) (.cons (.str "ss") .nil)))) (.v 6)) (.cons (.cmp .ne (.call 18 (.cons (.v 0) (.cons (.v 6) (.cons (.str "rrr") .nil)))) (.v 6)) .nil))) (elt := .v 6) (ρ := [dv' (cvD S R), dv' (tp R), iv' (S.length : Nat), none, none, none, none]) (τ := τ) (τ' := τ) (rangeI 0 S.length) .int (fun _ => false) .int (by
    have := rng_items (g := gl (k + 1)) (a := .v 2) (ρ := [dv' (cvD S R), dv' (tp R), iv' (S.length : Nat), none, none, none, none]) (τ := τ) (τ' := τ) (j := (S.length : Nat)) (ev_v rfl) (by omega) (by omega)
    rwa [Int.toNat_natCast] at this) (small_sl (by rw [rangeI_len]; omega)) (by show 6 < 7; decide) (fun x hx ρ1 hρ => by
    have ht := List.all_eq_true.mp h.t x hx
    rw [Bool.and_eq_true, decide_eq_true_eq, decide_eq_true_eq] at ht
    have hx := rangeI_mem hx
    subst hρ
    refine ⟨?_, fun z => by cases z⟩
    have v0 : ev (gl (k + 1)) (.v 0) [dv' (cvD S R), dv' (tp R), iv' (S.length : Nat), none, none, none, iv' x] τ = some (cvD S R, τ) := ev_v rfl
    have v6 : ev (gl (k + 1)) (.v 6) [dv' (cvD S R), dv' (tp R), iv' (S.length : Nat), none, none, none, iv' x] τ = some (.int x, τ) := ev_v rfl
    have r1 := r_lled k h [.s, .s] (by simp) (i := x) (by omega) (by omega) τ
    have r2 := r_lled k h [.r, .r, .r] (by simp) (i := x) (by omega) (by omega) τ
    rw [show ledI S R x [.s, .s] = x from ht.1, ← str_ss] at r1
    rw [show ledI S R x [.r, .r, .r] = x from ht.2, ← str_rrr] at r2
    have t1 := evT_b (ev_cmp (ev_cal3 (f := 18) v0 v6 (es "ss" _) (by rw [gl_call]; exact r1)) v6 (cop_ne_int _ _))
    have t2 := evT_b (ev_cmp (ev_cal3 (f := 18) v0 v6 (es "rrr" _) (by rw [gl_call]; exact r2)) v6 (cop_ne_int _ _))
    rw [decide_eq_true rfl] at t1 t2
    show evT _ _ [dv' (cvD S R), dv' (tp R), iv' (S.length : Nat), none, none, none, iv' x] _ = _
    rw [evT_or t1]
    show evT _ _ _ _ = _
    rw [evT_or1, t2]
    rfl)
  rw [filter_no] at e2
  have t2 := evT_b (ev_cmp e2 (ev_lst (ds := []) evs_nil (by simp)) (show cop .ne (.list []) (.list []) = some false by decide +kernel))
  rw [exs_if0 t2, exs_own' (by show 3 < 7; decide) (ev_lst (ds := [.int 0]) (evs_cons ev_int evs_nil) (by simp))]
  show exs (gl (k + 1)) _ [dv' (cvD S R), dv' (tp R), iv' (S.length : Nat), some (.ow [.int 0]), none, none, none] τ = _
  have e3 : ex (gl (k + 1)) (.dd1 4 0 (.int 0) (.bl true)) [dv' (cvD S R), dv' (tp R), iv' (S.length : Nat), some (.ow [.int 0]), none, none, none] τ = some (.nx (icE S R (tp R) [0] none none) τ) := by
    rw [ex, ev_int, Option.bind_some]
    dsimp only
    rw [ev, Option.bind_some]
    rfl
  obtain ⟨p', y5, e4⟩ := cov_bfs (k + 1) h none τ (rangeI 0 S.length) [0] (tp R) none (by rw [rangeI_len]; simp; omega) (fun a ha => (rangeI_mem ha).1) (fun x hx => by rw [List.mem_singleton] at hx; omega)
  have it := rng_items (g := gl (k + 1)) (a := .v 2) (ρ := icE S R (tp R) [0] none none) (τ := τ) (τ' := τ) (j := (S.length : Nat)) (ev_v rfl) (by omega) (by omega)
  rw [Int.toNat_natCast] at it
  rw [exs_nx e3, exs_fr it e4]
  have lb := h.b
  have e5 : ev (gl (k + 1)) (.cmp .eq (.bi .len (.cons (.pk 3) .nil)) (.v 2)) (icE S R p' (bfsI S R) y5 none) τ = some (.bool true, τ) := by
    have := ev_cmp (ev_bi1 (ev_pk (g := gl (k + 1)) (i := 3) (τ := τ) (ρ := icE S R p' (bfsI S R) y5 none) (d := .list ((bfsI S R).map .int)) rfl) (show biD .len [.list ((bfsI S R).map .int)] = some (.int ((bfsI S R).length : Nat)) from by show some (PyData.int (((bfsI S R).map PyData.int).length : Nat)) = _; rw [List.length_map])) (ev_v (i := 2) (d := .int (S.length : Nat)) rfl) (cop_eq_int _ _)
    rw [lb, decide_eq_true rfl] at this
    exact this
  exact exs_ret' e5

open Cv
/-! Gamma(n) -/
theorem addQ_all {l : List Q} {x : Q} {p : Q → Prop} (h : ∀ y ∈ l, p y) (hx : p x) : ∀ y ∈ addQ l x, p y := fun y hy => (mem_addQ.mp hy).elim (h y) fun z => by rw [z]; exact hx
abbrev cwE (n : Int) (o : List Q) (i : Nat) (x7 x8 : Option Sl) : Ev := [iv' n, dv' (tp (fst2 n)), odQ 4 o, some (.ow (o.map tp)), iv' i, none, none, x7, x8, none]
/-- a class is kept -/
theorem cw_b0 (k : Nat) {n : Int} (hn : n ≠ 0) {o : List Q} (h2 : o.length ≤ 900) {q : Q} (hq : q.length = 4) (i : Nat) (x8 : Option Sl) (τ : TA') :
    exs (gl (k + 2)) f_cover_whole_b0 (cwE n o i (dv' (tp q)) x8) τ = some (.nx (cwE n (addQ o (tclL n q)) i (dv' (tp q)) (dv' (tp (tclL n q)))) τ) := by
  have hl : (tclL n q).length = 4 := (tcl_len n q).trans hq
  have hne : q ≠ [] := by intro z; rw [z] at hq; cases hq
  unfold f_cover_whole_b0
  rw [exs_set' (by show 8 < 10; decide) (ev_cal2 (ev_v (i := 0) (d := .int n) rfl) (ev_v (i := 7) (d := tp q) rfl) (by rw [gl_call]; exact r_tclass k hn (isRow_tp q) (by omega) hne τ))]
  show exs (gl (k + 2)) _ (cwE n o i (dv' (tp q)) (dv' (tp (tclL n q)))) τ = _
  have t : evT (gl (k + 2)) (.din true 2 (.v 8)) (cwE n o i (dv' (tp q)) (dv' (tp (tclL n q)))) τ = some (!decide (tclL n q ∈ o), τ) := by
    refine evT_b ?_
    rw [ev, ev_v (d := tp (tclL n q)) rfl, Option.bind_some]
    show ((keyD 4 (tp (tclL n q))).map fun k => (PyData.bool ((valD (kvQ o) k).isSome != true), τ)) = _
    rw [keyD_tp (by decide) hl, Option.map_some, val_kvQ]
    cases decide (tclL n q ∈ o) <;> rfl
  by_cases h : tclL n q ∈ o
  · rw [decide_eq_true h] at t
    rw [exs_if0 t, exs]
    unfold addQ
    rw [if_pos h]
  · rw [decide_eq_false h] at t
    rw [exs_if t]
    show (exs (gl (k + 2)) _ _ _).bind _ = _
    rw [exs_nx (ex_dstQ (k := 4) (x := tclL n q) (l := o) (by decide) (by rw [ev]) (ev_v rfl) hl rfl (by omega))]
    rw [exs_app' (ev_v (i := 8) (d := tp (tclL n q)) rfl) (xs := o.map tp) rfl (by rw [List.length_map]; omega), exs]
    unfold addQ
    rw [if_neg h]
    show some (Out.nx [iv' n, dv' (tp (fst2 n)), odQ 4 (o ++ [tclL n q]), some (.ow (o.map tp ++ [tp (tclL n q)])), iv' i, none, none, dv' (tp q), dv' (tp (tclL n q)), none] τ) = _
    rw [show o.map tp ++ [tp (tclL n q)] = (o ++ [tclL n q]).map tp from by rw [List.map_append]; rfl]
theorem stS_len {q : Q} (h : q.length = 4) : (stS q).length = 4 := by obtain ⟨a, b, c, d, rfl⟩ := mem_four h; rfl
theorem stR_len {q : Q} (h : q.length = 4) : (stR q).length = 4 := by obtain ⟨a, b, c, d, rfl⟩ := mem_four h; rfl
theorem stT_len {q : Q} (h : q.length = 4) : (stT q).length = 4 := by obtain ⟨a, b, c, d, rfl⟩ := mem_four h; rfl
theorem r_stS (k : Nat) {q : Q} (h : q.length = 4) (τ : TA') : run pg (k + 1) 9 [tp q] τ = some (tp (stS q), τ) := by obtain ⟨a, b, c, d, rfl⟩ := mem_four h; exact r_steps k a b c d τ
theorem r_stR (k : Nat) {q : Q} (h : q.length = 4) (τ : TA') : run pg (k + 1) 10 [tp q] τ = some (tp (stR q), τ) := by obtain ⟨a, b, c, d, rfl⟩ := mem_four h; exact r_stepr k a b c d τ
theorem cw_loop (k : Nat) {n : Int} (hn : n ≠ 0) (τ : TA') : ∀ (j : Nat) (o : List Q) (i : Nat) (x7 x8 : Option Sl) (N : Nat) (fin : List Q), bfsW n stS stR j o i = some fin → j < N → o.length + 2 * j ≤ 900 → (∀ q ∈ o, q.length = 4) →
    (∃ i' y7 y8, loopW (fun ρ τ => evT (gl (k + 2)) (.cmp .lt (.v 4) (.bi .len (.cons (.pk 3) .nil))) ρ τ) (exs (gl (k + 2)) f_cover_whole_b1) N (cwE n o i x7 x8) τ = some (.nx (cwE n fin i' y7 y8) τ)) ∧ ∀ q ∈ fin, q.length = 4
  | 0, o, i, x7, x8, N, fin, h, _, _, _ => by cases h
  | j + 1, o, i, x7, x8, 0, fin, h, hN, _, _ => absurd hN (by omega)
  | j + 1, o, i, x7, x8, N + 1, fin, h, hN, hl, hq => by
    have t : evT (gl (k + 2)) (.cmp .lt (.v 4) (.bi .len (.cons (.pk 3) .nil))) (cwE n o i x7 x8) τ = some (decide ((i : Int) < (o.length : Nat)), τ) :=
      evT_b (ev_cmp (ev_v (d := .int (i : Int)) rfl) (ev_bi1 (ev_pk (d := .list (o.map tp)) rfl) (show biD .len [.list (o.map tp)] = some (.int (o.length : Nat)) from by show some (PyData.int ((o.map tp).length : Nat)) = _; rw [List.length_map])) (clt_int _ _))
    unfold bfsW at h
    cases hi : o[i]? with
    | none =>
      rw [hi] at h
      cases h
      have : o.length ≤ i := List.getElem?_eq_none_iff.mp hi
      rw [decide_eq_false (by omega)] at t
      exact ⟨⟨i, x7, x8, by rw [loopW, t]; rfl⟩, hq⟩
    | some q =>
      rw [hi] at h
      have hlt : i < o.length := (List.getElem?_eq_some_iff.mp hi).1
      have hq4 := hq q (List.mem_of_getElem? hi)
      rw [decide_eq_true (by omega)] at t
      have n1 := addQ_len o (tclL n (stS q))
      have n2 := addQ_len (addQ o (tclL n (stS q))) (tclL n (stR q))
      have eq : ev (gl (k + 2)) (.ix (.pk 3) (.v 4)) (cwE n o i x7 x8) τ = some (tp q, τ) := ev_ix' (ev_pk (d := .list (o.map tp)) rfl) (ev_v (d := .int (i : Int)) rfl) (pix_nat (by rw [List.getElem?_map, hi]; rfl))
      have eL := ev_tup2 (ev_cal1 (f := 9) eq (by rw [gl_call]; exact r_stS (k + 1) hq4 τ)) (ev_cal1 (f := 10) eq (by rw [gl_call]; exact r_stR (k + 1) hq4 τ))
      have e1 : exs (gl (k + 2)) f_cover_whole_b1 (cwE n o i x7 x8) τ = some (.nx (cwE n (bstep n stS stR o q) (i + 1) (dv' (tp (stR q))) (dv' (tp (tclL n (stR q))))) τ) := by
        unfold f_cover_whole_b1
        have lp : loopF (bindT (.name 7)) (exs (gl (k + 2)) f_cover_whole_b0) [tp (stS q), tp (stR q)] (cwE n o i x7 x8) τ = some (.nx (cwE n (bstep n stS stR o q) i (dv' (tp (stR q))) (dv' (tp (tclL n (stR q))))) τ) := by
          rw [loopF]
          show (exs (gl (k + 2)) f_cover_whole_b0 (cwE n o i (dv' (tp (stS q))) x8) τ).bind _ = _
          rw [cw_b0 k hn (by omega) (stS_len hq4), Option.bind_some]
          dsimp only
          rw [loopF]
          show (exs (gl (k + 2)) f_cover_whole_b0 (cwE n (addQ o (tclL n (stS q))) i (dv' (tp (stR q))) (dv' (tp (tclL n (stS q))))) τ).bind _ = _
          rw [cw_b0 k hn (by omega) (stR_len hq4)]
          rfl
        rw [exs_fr (items_seq eL rfl) lp, exs_nx (ρ1 := cwE n (bstep n stS stR o q) (i + 1) (dv' (tp (stR q))) (dv' (tp (tclL n (stR q))))) (τ1 := τ) (by
          rw [ex, show get (cwE n (bstep n stS stR o q) i (dv' (tp (stR q))) (dv' (tp (tclL n (stR q))))) 4 = some (.int (i : Int)) from rfl]
          dsimp only
          rw [ev_int, Option.bind_some]
          rfl), exs]
      have hq2 : ∀ x ∈ bstep n stS stR o q, x.length = 4 := addQ_all (addQ_all hq ((tcl_len _ _).trans (stS_len hq4))) ((tcl_len _ _).trans (stR_len hq4))
      have hl2 : (bstep n stS stR o q).length ≤ o.length + 2 := by unfold bstep; omega
      obtain ⟨⟨i', y7, y8, e2⟩, hf⟩ := cw_loop k hn τ j (bstep n stS stR o q) (i + 1) (dv' (tp (stR q))) (dv' (tp (tclL n (stR q)))) N fin h (by omega) (by omega) hq2
      refine ⟨⟨i', y7, y8, ?_⟩, hf⟩
      rw [loopW, t, Option.bind_some]
      dsimp only
      rw [if_pos rfl, e1]
      exact e2
/-- all but the first, ascending -/
theorem lc_ne (k : Nat) {g : Glob TA'} {i f j : Nat} {it : Ir} {ρ : Ev} {τ : TA'} (o : List Q) (x : Q) (hit : items g it ρ τ = some (o.map tp, τ)) (hl : o.length ≤ 1000) (hi : i < ρ.length) (hv : ∀ d, get (ρ.set i (some (.sh d))) i = some d) (hf : ∀ d, get (ρ.set i (some (.sh d))) f = some (tp x)) :
    ev g (.lc (.name i) it (.cmp .ne (.v i) (.v f)) (.v i)) ρ τ = some (lq (o.filter fun y => !decide (y = x)), τ) :=
  ev_lcf o tp (fun y => !decide (y = x)) tp hit (small_sl (by omega)) hi fun y _ ρ1 hρ => by
    subst hρ
    exact ⟨evT_b (ev_cmp (ev_v (hv _)) (ev_v (hf _)) (cop_ne_tp y x)), fun _ => ev_v (hv _)⟩
theorem add_lq {l m : List Q} (h : l.length + m.length ≤ 1000) : bop .add (lq l) (lq m) = some (lq (l ++ m)) := by
  show (if okLen ((l.map tp).length + (m.map tp).length) then some (PyData.list (l.map tp ++ m.map tp)) else none) = _
  rw [List.length_map, List.length_map, if_pos (show okLen (l.length + m.length) = true from decide_eq_true (small_sl (by omega))), ← List.map_append]
theorem lc_img (k : Nat) {g : Glob TA'} {i : Nat} {it : Ir} {e : E} {ρ : Ev} {τ : TA'} (P : List Q) (f : Q → Q) (hit : items g it ρ τ = some (P.map tp, τ)) (hl : P.length ≤ 1000) (hi : i < ρ.length) (he : ∀ x ∈ P, ev g e (ρ.set i (some (.sh (tp x)))) τ = some (tp (f x), τ)) : ev g (.lc (.name i) it (.bl true) e) ρ τ = some (lq (P.map f), τ) := by
  have h := ev_lcf (g := g) (i := i) (it := it) (c := .bl true) (elt := e) (ρ := ρ) (τ := τ) (τ' := τ) P tp (fun _ => true) (fun x => tp (f x)) hit (small_sl (by omega)) hi (fun x hx ρ1 hρ => by
    subst hρ
    exact ⟨by simp [evT, ev, truth], fun _ => he x hx⟩)
  rw [filter_yes] at h
  rw [h]
  show some (PyData.list _, τ) = some (PyData.list _, τ)
  rw [List.map_map]
  rfl
theorem put_first (n : Int) : putD [] (Cv.keyT (fst2 n)) (.bool true) = kvQ [fst2 n] := put_kvQ [] (fst2 n)
theorem r_cwhole (k : Nat) {n : Int} (hn : n ≠ 0) {oa P : List Q} {S R : List Int} (ho : ord2 n = some oa) (e : ptsOf n oa = P) (h : Pts n 4 P S R) (τ : TA') : run pg (k + 3) 11 [.int n] τ = some (cvD S R, τ) := by
  have bP : P.length ≤ 400 := by have := h.lenS; have := h.c.big; omega
  have hf4 : (fst2 n).length = 4 := (tcl_len n _).trans rfl
  refine rg [iv' n, none, none, none, none, none, none, none, none, none] rfl rfl rfl ?_
  unfold f_cover_whole
  have ec : ev (gl (k + 2)) (.con 0) [iv' n, none, none, none, none, none, none, none, none, none] τ = some (conD [.int 1, .int 0, .int 0, .int 1], τ) := by rw [ev]; rfl
  rw [exs_set' (by show 1 < 10; decide) (ev_cal2 (ev_v (d := .int n) rfl) ec (by rw [gl_call]; exact r_tclass k hn isRow_con (by simp) (by simp) τ))]
  show exs (gl (k + 2)) _ [iv' n, dv' (tp (fst2 n)), none, none, none, none, none, none, none, none] τ = _
  have e1 : ex (gl (k + 2)) (.dd1 2 4 (.v 1) (.bl true)) [iv' n, dv' (tp (fst2 n)), none, none, none, none, none, none, none, none] τ = some (.nx [iv' n, dv' (tp (fst2 n)), odQ 4 [fst2 n], none, none, none, none, none, none, none] τ) := by
    rw [ex, ev_v (d := tp (fst2 n)) rfl, Option.bind_some]
    dsimp only
    rw [ev, Option.bind_some]
    dsimp only
    rw [keyD_tp (by decide) hf4, Option.bind_some, put_first]
    rfl
  rw [exs_nx e1, exs_own' (by show 3 < 10; decide) (ev_lst (ds := [tp (fst2 n)]) (evs_cons (ev_v rfl) evs_nil) (by simp)), exs_set' (by show 4 < 10; decide) ev_int]
  show exs (gl (k + 2)) _ (cwE n [fst2 n] 0 none none) τ = _
  obtain ⟨⟨i', y7, y8, e2⟩, hq⟩ := cw_loop k hn τ 300 [fst2 n] 0 none none FUEL oa ho (by unfold FUEL; decide) (by simp) (fun q hq => by rw [List.mem_singleton] at hq; rw [hq]; exact hf4)
  have lo : ((srtQ oa).filter fun y => !decide (y = fst2 n)).length + 1 = P.length := by rw [← e]; rfl
  rw [exs_whl e2]
  have lso : oa.length ≤ 900 := by
    have h1 : oa.length ≤ 1 + 2 * 300 := by
      have key : ∀ (j : Nat) (o : List Q) (i : Nat) (fin : List Q), bfsW n stS stR j o i = some fin → fin.length ≤ o.length + 2 * j := by
        intro j
        induction j with
        | zero => intro o i fin h; cases h
        | succ j ih =>
          intro o i fin h
          unfold bfsW at h
          cases hi : o[i]? with
          | none => rw [hi] at h; cases h; omega
          | some q =>
            rw [hi] at h
            have h1 := ih _ _ _ h
            have h2 := addQ_len o (tclL n (stS q))
            have h3 := addQ_len (addQ o (tclL n (stS q))) (tclL n (stR q))
            unfold bstep at h1
            omega
      exact key 300 [fst2 n] 0 oa ho
    omega
  have ed : ev (gl (k + 2)) (.dks 2) (cwE n oa i' y7 y8) τ = some (lq (srtQ oa), τ) := ev_dksQ (k := 4) (by decide) oa rfl fun x hx z => by
    have := hq x hx
    rw [z] at this
    cases this
  have e3 := ev_bin (ev_lst (ds := [tp (fst2 n)]) (evs_cons (ev_v (g := gl (k + 2)) (i := 1) (ρ := cwE n oa i' y7 y8) (τ := τ) rfl) evs_nil) (by simp)) (lc_ne k (i := 9) (f := 1) (j := 0) (srtQ oa) (fst2 n) (items_seq ed rfl) (by rw [srtQ_len]; omega) (by show 9 < 10; decide) (fun _ => rfl) (fun _ => rfl)) (add_lq (l := [fst2 n]) (by rw [List.length_singleton]; omega))
  rw [show lq ([fst2 n] ++ (srtQ oa).filter fun y => !decide (y = fst2 n)) = lq P from by rw [← e]; rfl] at e3
  rw [exs_set' (by show 5 < 10; decide) e3]
  show exs (gl (k + 2)) _ [iv' n, dv' (tp (fst2 n)), odQ 4 oa, some (.ow (oa.map tp)), iv' i', dv' (lq P), none, y7, y8, none] τ = _
  have pS := lc_img k (g := gl (k + 2)) (i := 9) (it := .seq (.v 5)) (e := .call 4 (.cons (.v 0) (.cons (.call 9 (.cons (.v 9) .nil)) .nil))) (ρ := [iv' n, dv' (tp (fst2 n)), odQ 4 oa, some (.ow (oa.map tp)), iv' i', dv' (lq P), none, y7, y8, none]) (τ := τ) P (fun x => tclL n (stS x)) (items_seq (ev_v rfl) rfl) (by omega) (by show 9 < 10; decide) (fun x hx => by
    have h4 := h.len x hx
    exact ev_cal2 (ev_v (d := .int n) rfl) (ev_cal1 (ev_v (d := tp x) rfl) (by rw [gl_call]; exact r_stS (k + 1) h4 τ)) (by rw [gl_call]; exact r_tclass k hn (isRow_tp _) (by rw [stS_len h4]; decide) (by intro z; have := stS_len h4; rw [z] at this; cases this) τ))
  rw [exs_set' (by show 6 < 10; decide) pS]
  show exs (gl (k + 2)) _ [iv' n, dv' (tp (fst2 n)), odQ 4 oa, some (.ow (oa.map tp)), iv' i', dv' (lq P), dv' (lq (P.map fun x => tclL n (stS x))), y7, y8, none] τ = _
  have pR := lc_img k (g := gl (k + 2)) (i := 9) (it := .seq (.v 5)) (e := .call 4 (.cons (.v 0) (.cons (.call 10 (.cons (.v 9) .nil)) .nil))) (ρ := [iv' n, dv' (tp (fst2 n)), odQ 4 oa, some (.ow (oa.map tp)), iv' i', dv' (lq P), dv' (lq (P.map fun x => tclL n (stS x))), y7, y8, none]) (τ := τ) P (fun x => tclL n (stR x)) (items_seq (ev_v rfl) rfl) (by omega) (by show 9 < 10; decide) (fun x hx => by
    have h4 := h.len x hx
    exact ev_cal2 (ev_v (d := .int n) rfl) (ev_cal1 (ev_v (d := tp x) rfl) (by rw [gl_call]; exact r_stR (k + 1) h4 τ)) (by rw [gl_call]; exact r_tclass k hn (isRow_tp _) (by rw [stR_len h4]; decide) (by intro z; have := stR_len h4; rw [z] at this; cases this) τ))
  have e4 := r_cov4 (k + 1) h.nd h.len (A := P.map fun x => tclL n (stS x)) (B := P.map fun x => tclL n (stR x)) (fun x hx => by obtain ⟨y, hy, rfl⟩ := List.mem_map.mp hx; exact h.inS hy) (fun x hx => by obtain ⟨y, hy, rfl⟩ := List.mem_map.mp hx; exact h.inR hy) (by omega) (by rw [List.length_map]; omega) (by rw [List.length_map]; omega) τ
  rw [List.map_map, List.map_map, show (List.map ((fun x => (ixQ P x : Int)) ∘ fun x => tclL n (stS x)) P) = S from h.s, show (List.map ((fun x => (ixQ P x : Int)) ∘ fun x => tclL n (stR x)) P) = R from h.r] at e4
  exact exs_ret' (ev_cal3 (ev_v (i := 5) (d := lq P) rfl) (ev_v (i := 6) (d := lq (P.map fun x => tclL n (stS x))) rfl) pR (by rw [gl_call]; exact e4))

theorem lt_sl {n : Nat} (h : n ≤ 100000) : okLen n = true := decide_eq_true (small_sl h)
theorem dr' (n : Nat) {m : Int} (τ : TA') (h0 : 0 < m) (h1 : m < 2 ^ 2000) : ∃ v τ', run pg (n + 1) 0 [tokD, .int m] τ = some (.int v, τ') ∧ 0 ≤ v ∧ v < m := by
  obtain ⟨v, τ', e, h⟩ := dr0 τ h0 h1
  refine ⟨v, τ', ?_, h⟩
  rw [run]
  exact e
theorem r_pick (n : Nat) (xs : List PD) (h0 : 0 < xs.length) (h1 : xs.length ≤ 100000) (τ : TA') : ∃ x ∈ xs, ∃ τ', run pg (n + 2) 12 [tokD, .list xs] τ = some (x, τ') := by
  obtain ⟨v, τ1, e1, v0, v1⟩ := dr' n τ (m := xs.length) (by omega) (Int.lt_of_le_of_lt (show (xs.length : Int) ≤ 100000 by omega) (by decide))
  obtain ⟨x, hx, e2, _⟩ := pix_at v0 v1
  refine ⟨x, hx, τ1, rg [some (.sh tokD), some (.sh (.list xs))] rfl rfl rfl ?_⟩
  simp [f_law_pick, exs, ex, ev, evs, get, gl_call, biD, e1, e2]
/-- a list that is drawn -/
theorem lc_drawG {α : Type} {P : α → Prop} {e : α → PD} {step : PD → TA' → Option (Option PD × TA')} : ∀ (ds : List PD) (τ : TA'), (∀ d ∈ ds, ∀ τ, ∃ a τ', step d τ = some (some (e a), τ') ∧ P a) → ∃ (l : List α) (τ' : TA'), lcLoop step ds τ = some (l.map e, τ') ∧ l.length = ds.length ∧ ∀ t ∈ l, P t
  | [], τ, _ => ⟨[], τ, rfl, rfl, fun t h => by cases h⟩
  | d :: ds, τ, hs => by
    obtain ⟨v, τ1, e1, h1⟩ := hs d List.mem_cons_self τ
    obtain ⟨l, τ2, e2, h3, h4⟩ := lc_drawG ds τ1 fun d hd => hs d (List.mem_cons_of_mem _ hd)
    refine ⟨v :: l, τ2, ?_, by rw [List.length_cons, List.length_cons, h3], fun t ht => ?_⟩
    · rw [lcLoop, e1, Option.bind_some, e2]
      rfl
    · rcases List.mem_cons.mp ht with rfl | ht
      · exact h1
      · exact h4 t ht
theorem ev_lcd {α : Type} {P : α → Prop} {e : α → PD} {g : Glob TA'} {i : Nat} {it : Ir} {elt : E} {ρ : Ev} {τ τ1 : TA'} {ds : List PD} (hit : items g it ρ τ = some (ds, τ1)) (hl : ds.length ≤ 100000) (hi : i < ρ.length) (hs : ∀ d ∈ ds, ∀ τ, ∃ a τ', ev g elt (ρ.set i (some (.sh d))) τ = some (e a, τ') ∧ P a) :
    ∃ (l : List α) (τ' : TA'), ev g (.lc (.name i) it (.bl true) elt) ρ τ = some (.list (l.map e), τ') ∧ l.length = ds.length ∧ ∀ a ∈ l, P a := by
  obtain ⟨l, τ2, e1, h1, h2⟩ := lc_drawG (P := P) (e := e) (step := fun d τ => (bindT (.name i) d (wipeE ρ (Tg.slots (.name i)))).bind fun ρ1 => (ev g (.bl true) ρ1 τ).bind fun q => (truth q.1).bind fun b => if b then (ev g elt ρ1 q.2).map fun r => (some r.1, r.2) else some (none, q.2)) ds τ1 (fun d hd τ => by
    obtain ⟨a, τ', ea, pa⟩ := hs d hd τ
    have hb : bindT (.name i) d (wipeE ρ (Tg.slots (.name i))) = some (ρ.set i (some (.sh d))) := by
      show (if i < (ρ.set i none).length then some (put (ρ.set i none) i (.sh d)) else none) = _
      rw [if_pos (by rw [List.length_set]; exact hi)]
      unfold put
      rw [List.set_set]
    refine ⟨a, τ', ?_, pa⟩
    rw [hb, Option.bind_some, show ev g (.bl true) (ρ.set i (some (.sh d))) τ = some (.bool true, τ) by rw [ev], Option.bind_some]
    dsimp only
    rw [show truth (.bool true) = some true from rfl, Option.bind_some, if_pos rfl, ea]
    rfl)
  refine ⟨l, τ2, ?_, h1, h2⟩
  rw [ev, hit, Option.bind_some]
  dsimp only
  rw [if_pos (show okLen ds.length = true from lt_sl hl), e1]
  rfl

open Cv
/-! products, words -/
theorem r_lmul (k : Nat) {m x : Mx} {i j : Nat} (hm : m.Sm i) (hx : x.Sm j) (hij : i + j < 1000) (τ : TA') : run pg (k + 1) 15 [m.pd, x.pd] τ = some ((m.mul x).pd, τ) := by
  refine rg [dv' m.pd, dv' x.pd, none, none, none, none, none, none, none, none] rfl rfl rfl ?_
  unfold f_law_mul
  rw [exs_unp' (ev_v (d := m.pd) rfl) (show bindT _ _ _ = some [dv' m.pd, dv' x.pd, iv' m.a, iv' m.b, iv' m.c, iv' m.d, none, none, none, none] from rfl)]
  rw [exs_unp' (ev_v (d := x.pd) rfl) (show bindT _ _ _ = some [dv' m.pd, dv' x.pd, iv' m.a, iv' m.b, iv' m.c, iv' m.d, iv' x.a, iv' x.b, iv' x.c, iv' x.d] from rfl)]
  have mm : ∀ {p q : Int} {u v : Nat}, Sm i p → Sm j q → okMul p q = true := fun h1 h2 => h1.okMul h2 (by omega)
  exact exs_ret' (ev_tup4
    (ev_bin (ev_bin (ev_v rfl) (ev_v rfl) (bop_mul' (hm.a.okMul hx.a (by omega)))) (ev_bin (ev_v rfl) (ev_v rfl) (bop_mul' (hm.b.okMul hx.c (by omega)))) (bop_add' _ _))
    (ev_bin (ev_bin (ev_v rfl) (ev_v rfl) (bop_mul' (hm.a.okMul hx.b (by omega)))) (ev_bin (ev_v rfl) (ev_v rfl) (bop_mul' (hm.b.okMul hx.d (by omega)))) (bop_add' _ _))
    (ev_bin (ev_bin (ev_v rfl) (ev_v rfl) (bop_mul' (hm.c.okMul hx.a (by omega)))) (ev_bin (ev_v rfl) (ev_v rfl) (bop_mul' (hm.d.okMul hx.c (by omega)))) (bop_add' _ _))
    (ev_bin (ev_bin (ev_v rfl) (ev_v rfl) (bop_mul' (hm.c.okMul hx.b (by omega)))) (ev_bin (ev_v rfl) (ev_v rfl) (bop_mul' (hm.d.okMul hx.d (by omega)))) (bop_add' _ _)))
def mq (m : Mx) : Q := [m.a, m.b, m.c, m.d]
theorem mq_pd (m : Mx) : tp (mq m) = m.pd := rfl
theorem strsOf_map {α : Type} (f : α → Str) : ∀ l : List α, strsOf (l.map fun a => PyData.str (f a)) = some (l.map f)
  | [] => rfl
  | a :: l => by rw [List.map_cons, strsOf, strsOf_map f l]; rfl
/-- a pair of letters -/
def bL (b : Bool) : List Lt := if b then [.s, .r] else [.s, .R]
theorem emp_wd : ("" : Str) = wd [] := by decide +kernel
theorem join_bL : ∀ l : List Bool, Str.join "" (l.map fun b => wd (bL b)) = wd (l.flatMap bL)
  | [] => rfl
  | [b] => by
    rw [List.flatMap_cons, List.flatMap_nil, List.append_nil]
    rfl
  | a :: b :: l => by
    have ih := join_bL (b :: l)
    rw [List.map_cons] at ih
    show wd (bL a) ++ "" ++ Str.join "" (wd (bL b) :: l.map fun b => wd (bL b)) = _
    rw [ih, emp_wd, ← wd_app, ← wd_app, List.append_nil, List.flatMap_cons (x := a)]
theorem pjoin_bL {l : List Bool} (h : l.length ≤ 1000) : pme .join (.str "") [.list (l.map fun b => .str (wd (bL b)))] = some (.str (wd (l.flatMap bL))) := by
  show (match strsOf (l.map fun b => PyData.str (wd (bL b))) with | some ys => if decide ((ys.map Str.length).sum + ys.length * ("" : Str).length ≤ 16777216) then some (PyData.str (Txt.join "" ys)) else none | none => none) = _
  rw [strsOf_map]
  dsimp only
  have e1 : ((l.map fun b => wd (bL b)).map Str.length).sum ≤ 2 * l.length := by
    rw [List.map_map]
    induction l with
    | nil => simp
    | cons a l ih =>
      rw [List.map_cons, List.sum_cons, List.length_cons]
      have := ih (by rw [List.length_cons] at h; omega)
      have h2 : (Str.length ∘ fun b => wd (bL b)) a = 2 := by show (wd (bL a)).length = 2; rw [wd_len]; cases a <;> rfl
      rw [h2]
      omega
  rw [if_pos (by
    rw [show ("" : Str).length = 0 from rfl, Nat.mul_zero]
    exact decide_eq_true (by omega))]
  unfold Txt.join
  rw [StrLaws.glued_eq_join, join_bL]
theorem str_sr : ("s" : Str) ++ "r" = wd (bL true) := by decide +kernel
theorem str_sR : ("s" : Str) ++ "R" = wd (bL false) := by decide +kernel
theorem r_word (k : Nat) {m : Int} (h0 : 0 ≤ m) (h1 : m ≤ 100) (τ : TA') : ∃ (l : List Bool) (τ' : TA'), run pg (k + 3) 20 [tokD, .int m] τ = some (.str (wd (l.flatMap bL)), τ') ∧ l.length ≤ 100 := by
  obtain ⟨l, τ', e, hl, _⟩ := ev_lcd (P := fun _ : Bool => True) (e := fun b => PyData.str (wd (bL b))) (g := gl (k + 2)) (i := 2) (it := .rng1 (.v 1)) (elt := .bin .add (.str "s") (.call 12 (.cons (.v 0) (.cons (.lst (.cons (.str "r") (.cons (.str "R") .nil))) .nil)))) (ρ := [dv' tokD, iv' m, none]) (τ := τ) (τ1 := τ) (ds := (rangeI 0 m.toNat).map .int) (rng_items (ev_v rfl) h0 (by omega)) (by rw [List.length_map, rangeI_len]; omega) (by show 2 < 3; decide) (fun d hd τ => by
    obtain ⟨y, hy, τ1, e1⟩ := r_pick k [.str "r", .str "R"] (by decide) (by decide) τ
    have es : ∀ z τ, ev (gl (k + 2)) (.str z) [dv' tokD, iv' m, dv' d] τ = some (.str z, τ) := fun z τ => by rw [ev]
    have e2 := ev_cal2 (f := 12) (ev_v (g := gl (k + 2)) (i := 0) (d := tokD) (ρ := [dv' tokD, iv' m, dv' d]) (τ := τ) rfl) (ev_lst (evs_cons (es "r" τ) (evs_cons (es "R" τ) evs_nil)) (by simp)) (by rw [gl_call]; exact e1)
    simp only [List.mem_cons, List.not_mem_nil, or_false] at hy
    rcases hy with rfl | rfl
    · exact ⟨true, τ1, ev_bin (es "s" τ) e2 (show (if okLen (("s" : Str).length + ("r" : Str).length) then some (PyData.str (("s" : Str) ++ "r")) else none) = _ by rw [str_sr]; exact if_pos (show okLen (("s" : Str).length + ("r" : Str).length) = true from by decide +kernel)), trivial⟩
    · exact ⟨false, τ1, ev_bin (es "s" τ) e2 (show (if okLen (("s" : Str).length + ("R" : Str).length) then some (PyData.str (("s" : Str) ++ "R")) else none) = _ by rw [str_sR]; exact if_pos (show okLen (("s" : Str).length + ("R" : Str).length) = true from by decide +kernel)), trivial⟩)
  rw [List.length_map, rangeI_len] at hl
  refine ⟨l, τ', rg [dv' tokD, iv' m, none] rfl rfl rfl ?_, by omega⟩
  unfold f_law_word
  exact exs_ret' (ev_me1 (by rw [ev]) e (pjoin_bL (by omega)))
def wM (l : List Lt) : Mx := l.foldl (fun m t => m.mul t.mx) Mx.one
theorem sm_one : Mx.one.Sm 1 := ⟨by unfold Fh.Sm; decide, by unfold Fh.Sm; decide, by unfold Fh.Sm; decide, by unfold Fh.Sm; decide⟩
theorem wm_loop (k : Nat) (w : PD) (τ : TA') : ∀ (l : List Lt) (m : Mx) (i : Nat) (x2 : Option Sl), m.Sm i → i + 2 * l.length ≤ 900 →
    (∃ y2, loopF (bindT (.name 2)) (exs (gl (k + 1)) f_law_of_word_b0) (l.map fun t => .str t.str) [dv' w, dv' m.pd, x2] τ = some (.nx [dv' w, dv' (l.foldl (fun m t => m.mul t.mx) m).pd, y2] τ)) ∧ (l.foldl (fun m t => m.mul t.mx) m).Sm (i + 2 * l.length)
  | [], m, i, x2, hm, _ => ⟨⟨x2, rfl⟩, hm⟩
  | t :: l, m, i, x2, hm, hi => by
    rw [List.length_cons] at hi
    have e1 : exs (gl (k + 1)) f_law_of_word_b0 [dv' w, dv' m.pd, dv' (.str t.str)] τ = some (.nx [dv' w, dv' (m.mul t.mx).pd, dv' (.str t.str)] τ) := by
      have v2 : ev (gl (k + 1)) (.v 2) [dv' w, dv' m.pd, dv' (.str t.str)] τ = some (.str t.str, τ) := ev_v rfl
      have es : ∀ z : Str, ev (gl (k + 1)) (.str z) [dv' w, dv' m.pd, dv' (.str t.str)] τ = some (.str z, τ) := fun z => by rw [ev]
      have q1 := ev_ite (a := .tup (.cons (.int 0) (.cons (.neg (.int 1)) (.cons (.int 1) (.cons (.int 0) .nil))))) (b := .ite (.cmp .eq (.v 2) (.str "r")) (.tup (.cons (.int 0) (.cons (.neg (.int 1)) (.cons (.int 1) (.cons (.int 1) .nil))))) (.tup (.cons (.neg (.int 1)) (.cons (.neg (.int 1)) (.cons (.int 1) (.cons (.int 0) .nil)))))) (ev_cmp v2 (es "s") (lt_s t))
      have q2 := ev_ite (a := .tup (.cons (.int 0) (.cons (.neg (.int 1)) (.cons (.int 1) (.cons (.int 1) .nil))))) (b := .tup (.cons (.neg (.int 1)) (.cons (.neg (.int 1)) (.cons (.int 1) (.cons (.int 0) .nil))))) (ev_cmp v2 (es "r") (lt_r t))
      have el : ev (gl (k + 1)) (.ite (.cmp .eq (.v 2) (.str "s")) (.tup (.cons (.int 0) (.cons (.neg (.int 1)) (.cons (.int 1) (.cons (.int 0) .nil))))) (.ite (.cmp .eq (.v 2) (.str "r")) (.tup (.cons (.int 0) (.cons (.neg (.int 1)) (.cons (.int 1) (.cons (.int 1) .nil))))) (.tup (.cons (.neg (.int 1)) (.cons (.neg (.int 1)) (.cons (.int 1) (.cons (.int 0) .nil))))))) [dv' w, dv' m.pd, dv' (.str t.str)] τ = some (t.mx.pd, τ) := by
        rw [q1]
        cases t with
        | s => exact (if_pos (by decide)).trans (ev_tup4 ev_int ev_neg1 ev_int ev_int)
        | r => exact (if_neg (by decide)).trans (q2.trans ((if_pos (by decide)).trans (ev_tup4 ev_int ev_neg1 ev_int ev_int)))
        | R => exact (if_neg (by decide)).trans (q2.trans ((if_neg (by decide)).trans (ev_tup4 ev_neg1 ev_neg1 ev_int ev_int)))
      unfold f_law_of_word_b0
      rw [exs_set' (by show 1 < 3; decide) (ev_cal2 (f := 15) (ev_v (i := 1) (d := m.pd) rfl) el (by rw [gl_call]; exact r_lmul k hm t.sm (by omega) τ)), exs]
      rfl
    obtain ⟨⟨y2, e2⟩, s2⟩ := wm_loop k w τ l (m.mul t.mx) (i + 2) (dv' (.str t.str)) (hm.mul t.sm) (by omega)
    refine ⟨⟨y2, ?_⟩, s2.mono (by rw [List.length_cons]; omega)⟩
    rw [List.map_cons, loopF]
    show (exs (gl (k + 1)) f_law_of_word_b0 [dv' w, dv' m.pd, dv' (.str t.str)] τ).bind _ = _
    rw [e1]
    exact e2
theorem r_ofword (k : Nat) {l : List Lt} (hl : l.length ≤ 400) (τ : TA') : run pg (k + 2) 21 [.str (wd l)] τ = some ((wM l).pd, τ) ∧ (wM l).Sm 900 := by
  obtain ⟨⟨y2, e⟩, s⟩ := wm_loop k (.str (wd l)) τ l Mx.one 1 none sm_one (by omega)
  refine ⟨rg [dv' (.str (wd l)), none, none] rfl rfl rfl ?_, s.mono (by omega)⟩
  unfold f_law_of_word
  rw [exs_set' (by show 1 < 3; decide) (ev_tup4 ev_int ev_int ev_int ev_int)]
  show exs (gl (k + 1)) _ [dv' (.str (wd l)), dv' Mx.one.pd, none] τ = _
  rw [exs_fr (items_seq (ev_v (d := .str (wd l)) rfl) (itemsOf_wd (small_sl (by omega)))) e]
  exact exs_ret' (ev_v rfl)
theorem det_wM (l : List Lt) : (wM l).det = 1 := by
  have : ∀ (l : List Lt) (m : Mx), m.det = 1 → (l.foldl (fun m t => m.mul t.mx) m).det = 1 := by
    intro l
    induction l with
    | nil => intro m h; exact h
    | cons t l ih => intro m h; exact ih _ (by rw [Mx.det_mul, h, t.det]; rfl)
  exact this l Mx.one rfl
/-! Gamma(n), the law's own list -/
theorem tcl_bd {n : Int} (hn : 1 ≤ n) (m : Q) : ∀ x ∈ tclL n m, 0 ≤ x ∧ x < n := by
  intro x hx
  unfold tclL at hx
  split at hx
  · obtain ⟨y, _, rfl⟩ := List.mem_map.mp hx
    exact ⟨Int.fmod_nonneg_of_pos _ (by omega), Int.fmod_lt_of_pos _ (by omega)⟩
  · obtain ⟨y, _, rfl⟩ := List.mem_map.mp hx
    exact ⟨Int.fmod_nonneg_of_pos _ (by omega), Int.fmod_lt_of_pos _ (by omega)⟩
/-- four numbers below 30 -/
def OkQ (q : Q) : Prop := q.length = 4 ∧ ∀ x ∈ q, 0 ≤ x ∧ x < 30
theorem okQ_tcl {n : Int} (hn : 1 ≤ n) (h30 : n ≤ 30) {m : Q} (hm : m.length = 4) : OkQ (tclL n m) := ⟨(tcl_len n m).trans hm, fun x hx => by have := tcl_bd hn m x hx; omega⟩
theorem okQ_mx {q : Q} (h : OkQ q) : ∃ m : Mx, q = mq m ∧ m.Sm 10 := by
  obtain ⟨h1, h2⟩ := h
  obtain ⟨a, b, c, d, rfl⟩ := mem_four h1
  have s : ∀ x ∈ [a, b, c, d], Sm 10 x := fun x hx => by have := h2 x hx; unfold Sm; omega
  exact ⟨⟨a, b, c, d⟩, rfl, s a (by simp), s b (by simp), s c (by simp), s d (by simp)⟩
def Tmx : Mx := ⟨1, 1, 0, 1⟩
theorem sm_T : Tmx.Sm 1 := ⟨by unfold Fh.Sm; decide, by unfold Fh.Sm; decide, by unfold Fh.Sm; decide, by unfold Fh.Sm; decide⟩
theorem mq_S (m : Mx) : mq (m.mul Lt.s.mx) = stS (mq m) := by
  show [m.a * 0 + m.b * 1, m.a * -1 + m.b * 0, m.c * 0 + m.d * 1, m.c * -1 + m.d * 0] = [m.b, -m.a, m.d, -m.c]
  congr 1 <;> (try omega)
  congr 1 <;> (try omega)
  congr 1 <;> (try omega)
  congr 1 <;> (try omega)
theorem mq_R (m : Mx) : mq (m.mul Lt.r.mx) = stR (mq m) := by
  show [m.a * 0 + m.b * 1, m.a * -1 + m.b * 1, m.c * 0 + m.d * 1, m.c * -1 + m.d * 1] = [m.b, m.b - m.a, m.d, m.d - m.c]
  congr 1 <;> (try omega)
  congr 1 <;> (try omega)
  congr 1 <;> (try omega)
  congr 1 <;> (try omega)
theorem mq_T (m : Mx) : mq (m.mul Tmx) = stT (mq m) := rfl

open Cv
/-! Gamma(n), the law's own list: the walk -/
abbrev wlE (n : Int) (o : List Q) (i : Nat) (x5 x6 : Option Sl) : Ev := [iv' n, dv' (tp (fst2 n)), odQ 4 o, some (.ow (o.map tp)), iv' i, x5, x6, none]
theorem wl_b0 (k : Nat) {n : Int} (hn : 1 ≤ n) {o : List Q} (h2 : o.length ≤ 900) {m x : Mx} (hm : m.Sm 10) (hx : x.Sm 1) {i : Nat} (hi : o[i]? = some (mq m)) (x6 : Option Sl) (τ : TA') :
    exs (gl (k + 2)) f_law_wholes_b0 (wlE n o i (dv' x.pd) x6) τ = some (.nx (wlE n (addQ o (tclL n (mq (m.mul x)))) i (dv' x.pd) (dv' (tp (tclL n (mq (m.mul x)))))) τ) := by
  have hl : (tclL n (mq (m.mul x))).length = 4 := tcl_len n _
  unfold f_law_wholes_b0
  have eq : ev (gl (k + 2)) (.ix (.pk 3) (.v 4)) (wlE n o i (dv' x.pd) x6) τ = some (tp (mq m), τ) := ev_ix' (ev_pk (d := .list (o.map tp)) rfl) (ev_v (d := .int (i : Int)) rfl) (pix_nat (by rw [List.getElem?_map, hi]; rfl))
  rw [exs_set' (by show 6 < 8; decide) (ev_cal2 (f := 17) (ev_v (i := 0) (d := .int n) rfl) (ev_cal2 (f := 15) eq (ev_v (i := 5) (d := x.pd) rfl) (by rw [gl_call]; exact r_lmul (k + 1) hm hx (by decide) τ)) (by rw [gl_call]; exact r_ltclass k (n := n) (by omega) (isRow_tp (mq (m.mul x))) (by show 4 ≤ 100; decide) (by simp [mq]) τ))]
  show exs (gl (k + 2)) _ (wlE n o i (dv' x.pd) (dv' (tp (tclL n (mq (m.mul x)))))) τ = _
  generalize tclL n (mq (m.mul x)) = z at *
  have t : evT (gl (k + 2)) (.din true 2 (.v 6)) (wlE n o i (dv' x.pd) (dv' (tp z))) τ = some (!decide (z ∈ o), τ) := by
    refine evT_b ?_
    rw [ev, ev_v (d := tp z) rfl, Option.bind_some]
    show ((keyD 4 (tp z)).map fun k => (PyData.bool ((valD (kvQ o) k).isSome != true), τ)) = _
    rw [keyD_tp (by decide) hl, Option.map_some, val_kvQ]
    cases decide (z ∈ o) <;> rfl
  by_cases h : z ∈ o
  · rw [decide_eq_true h] at t
    rw [exs_if0 t, exs]
    unfold addQ
    rw [if_pos h]
  · rw [decide_eq_false h] at t
    rw [exs_if t]
    show (exs (gl (k + 2)) _ _ _).bind _ = _
    rw [exs_nx (ex_dstQ (k := 4) (x := z) (l := o) (by decide) (by rw [ev]) (ev_v rfl) hl rfl (by omega))]
    rw [exs_app' (ev_v (i := 6) (d := tp z) rfl) (xs := o.map tp) rfl (by rw [List.length_map]; omega), exs]
    unfold addQ
    rw [if_neg h]
    show some (Out.nx [iv' n, dv' (tp (fst2 n)), odQ 4 (o ++ [z]), some (.ow (o.map tp ++ [tp z])), iv' i, dv' x.pd, dv' (tp z), none] τ) = _
    rw [show o.map tp ++ [tp z] = (o ++ [z]).map tp from by rw [List.map_append]; rfl]
theorem addQ_get {l : List Q} {x q : Q} {i : Nat} (h : l[i]? = some q) : (addQ l x)[i]? = some q := by
  unfold addQ
  split
  · exact h
  · rw [List.getElem?_append_left (List.getElem?_eq_some_iff.mp h).1]
    exact h
theorem wl_loop (k : Nat) {n : Int} (hn : 1 ≤ n) (h30 : n ≤ 30) (τ : TA') : ∀ (j : Nat) (o : List Q) (i : Nat) (x5 x6 : Option Sl) (N : Nat) (fin : List Q), bfsW n stS stT j o i = some fin → j < N → o.length + 2 * j ≤ 900 → (∀ q ∈ o, OkQ q) →
    (∃ i' y5 y6, loopW (fun ρ τ => evT (gl (k + 2)) (.cmp .lt (.v 4) (.bi .len (.cons (.pk 3) .nil))) ρ τ) (exs (gl (k + 2)) f_law_wholes_b1) N (wlE n o i x5 x6) τ = some (.nx (wlE n fin i' y5 y6) τ)) ∧ (∀ q ∈ fin, OkQ q) ∧ fin.length ≤ o.length + 2 * j
  | 0, o, i, x5, x6, N, fin, h, _, _, _ => by cases h
  | j + 1, o, i, x5, x6, 0, fin, h, hN, _, _ => absurd hN (by omega)
  | j + 1, o, i, x5, x6, N + 1, fin, h, hN, hl, hq => by
    have t : evT (gl (k + 2)) (.cmp .lt (.v 4) (.bi .len (.cons (.pk 3) .nil))) (wlE n o i x5 x6) τ = some (decide ((i : Int) < (o.length : Nat)), τ) :=
      evT_b (ev_cmp (ev_v (d := .int (i : Int)) rfl) (ev_bi1 (ev_pk (d := .list (o.map tp)) rfl) (show biD .len [.list (o.map tp)] = some (.int (o.length : Nat)) from by show some (PyData.int ((o.map tp).length : Nat)) = _; rw [List.length_map])) (clt_int _ _))
    unfold bfsW at h
    cases hi : o[i]? with
    | none =>
      rw [hi] at h
      cases h
      have : o.length ≤ i := List.getElem?_eq_none_iff.mp hi
      rw [decide_eq_false (by omega)] at t
      exact ⟨⟨i, x5, x6, by rw [loopW, t]; rfl⟩, hq, by omega⟩
    | some q =>
      rw [hi] at h
      have hlt : i < o.length := (List.getElem?_eq_some_iff.mp hi).1
      obtain ⟨m, rfl, hm⟩ := okQ_mx (hq q (List.mem_of_getElem? hi))
      rw [decide_eq_true (by omega)] at t
      have n1 := addQ_len o (tclL n (stS (mq m)))
      have n2 := addQ_len (addQ o (tclL n (stS (mq m)))) (tclL n (stT (mq m)))
      have eL : ev (gl (k + 2)) (.lst (.cons (.tup (.cons (.int 0) (.cons (.neg (.int 1)) (.cons (.int 1) (.cons (.int 0) .nil))))) (.cons (.tup (.cons (.int 1) (.cons (.int 1) (.cons (.int 0) (.cons (.int 1) .nil))))) .nil))) (wlE n o i x5 x6) τ = some (.list [Lt.s.mx.pd, Tmx.pd], τ) :=
        ev_lst (evs_cons (ev_tup4 ev_int ev_neg1 ev_int ev_int) (evs_cons (ev_tup4 ev_int ev_int ev_int ev_int) evs_nil)) (by simp)
      obtain ⟨y6, e1⟩ : ∃ y6, exs (gl (k + 2)) f_law_wholes_b1 (wlE n o i x5 x6) τ = some (.nx (wlE n (bstep n stS stT o (mq m)) (i + 1) (dv' Tmx.pd) y6) τ) := by
        refine ⟨dv' (tp (tclL n (mq (m.mul Tmx)))), ?_⟩
        unfold f_law_wholes_b1
        have lp : loopF (bindT (.name 5)) (exs (gl (k + 2)) f_law_wholes_b0) [Lt.s.mx.pd, Tmx.pd] (wlE n o i x5 x6) τ = some (.nx (wlE n (bstep n stS stT o (mq m)) i (dv' Tmx.pd) (dv' (tp (tclL n (mq (m.mul Tmx)))))) τ) := by
          rw [loopF]
          show (exs (gl (k + 2)) f_law_wholes_b0 (wlE n o i (dv' Lt.s.mx.pd) x6) τ).bind _ = _
          rw [wl_b0 k hn (by omega) hm Lt.s.sm hi, Option.bind_some]
          dsimp only
          rw [loopF]
          show (exs (gl (k + 2)) f_law_wholes_b0 (wlE n (addQ o (tclL n (mq (m.mul Lt.s.mx)))) i (dv' Tmx.pd) (dv' (tp (tclL n (mq (m.mul Lt.s.mx)))))) τ).bind _ = _
          rw [wl_b0 k hn (by rw [mq_S]; omega) hm sm_T (addQ_get hi), mq_S, mq_T]
          rfl
        have e3 : ev (gl (k + 2)) (.bin .add (.v 4) (.int 1)) (wlE n (bstep n stS stT o (mq m)) i (dv' Tmx.pd) (dv' (tp (tclL n (mq (m.mul Tmx)))))) τ = some (.int ((i : Int) + 1), τ) := ev_bin (ev_v rfl) ev_int (bop_add' _ _)
        rw [exs_fr (items_seq eL rfl) lp, exs_set' (by show 4 < 8; decide) e3, exs]
        rfl
      have hl2 : (bstep n stS stT o (mq m)).length ≤ o.length + 2 := by unfold bstep; omega
      have hq2 : ∀ x ∈ bstep n stS stT o (mq m), OkQ x := addQ_all (addQ_all hq (okQ_tcl hn h30 rfl)) (okQ_tcl hn h30 rfl)
      obtain ⟨⟨i', y5, y6', e2⟩, hf, hl3⟩ := wl_loop k hn h30 τ j (bstep n stS stT o (mq m)) (i + 1) (dv' Tmx.pd) y6 N fin h (by omega) (by omega) hq2
      refine ⟨⟨i', y5, y6', ?_⟩, hf, by omega⟩
      rw [loopW, t, Option.bind_some]
      dsimp only
      rw [if_pos rfl, e1]
      exact e2
theorem r_wholes (k : Nat) {n : Int} (hn : 1 ≤ n) (h30 : n ≤ 30) {ob P : List Q} (ho : ordL n = some ob) (e : ptsOf n ob = P) (bP : P.length ≤ 400) (τ : TA') : run pg (k + 3) 24 [.int n] τ = some (lq P, τ) := by
  have hf4 : (fst2 n).length = 4 := (tcl_len n _).trans rfl
  refine rg [iv' n, none, none, none, none, none, none, none] rfl rfl rfl ?_
  unfold f_law_wholes
  have ei : ev (gl (k + 2)) (.tup (.cons (.int 1) (.cons (.int 0) (.cons (.int 0) (.cons (.int 1) .nil))))) [iv' n, none, none, none, none, none, none, none] τ = some (tp [1, 0, 0, 1], τ) := ev_tup4 ev_int ev_int ev_int ev_int
  rw [exs_set' (by show 1 < 8; decide) (ev_cal2 (f := 17) (ev_v (d := .int n) rfl) ei (by rw [gl_call]; exact r_ltclass k (n := n) (by omega) (isRow_tp [1, 0, 0, 1]) (by decide) (by simp) τ))]
  show exs (gl (k + 2)) _ [iv' n, dv' (tp (fst2 n)), none, none, none, none, none, none] τ = _
  have e1 : ex (gl (k + 2)) (.dd1 2 4 (.v 1) (.bl true)) [iv' n, dv' (tp (fst2 n)), none, none, none, none, none, none] τ = some (.nx [iv' n, dv' (tp (fst2 n)), odQ 4 [fst2 n], none, none, none, none, none] τ) := by
    rw [ex, ev_v (d := tp (fst2 n)) rfl, Option.bind_some]
    dsimp only
    rw [ev, Option.bind_some]
    dsimp only
    rw [keyD_tp (by decide) hf4, Option.bind_some, put_first]
    rfl
  rw [exs_nx e1, exs_own' (by show 3 < 8; decide) (ev_lst (ds := [tp (fst2 n)]) (evs_cons (ev_v rfl) evs_nil) (by simp)), exs_set' (by show 4 < 8; decide) ev_int]
  show exs (gl (k + 2)) _ (wlE n [fst2 n] 0 none none) τ = _
  obtain ⟨⟨i', y5, y6, e2⟩, hq, hlo⟩ := wl_loop k hn h30 τ 300 [fst2 n] 0 none none FUEL ob ho (by unfold FUEL; decide) (by simp) (fun q hq => by rw [List.mem_singleton] at hq; rw [hq]; exact okQ_tcl hn h30 rfl)
  rw [List.length_singleton] at hlo
  have lo : ((srtQ ob).filter fun y => !decide (y = fst2 n)).length + 1 = P.length := by rw [← e]; rfl
  rw [exs_whl e2]
  have ed : ev (gl (k + 2)) (.bi .sorted (.cons (.pk 3) .nil)) (wlE n ob i' y5 y6) τ = some (lq (srtQ ob), τ) := by
    refine ev_bi1 (ev_pk (d := lq ob) rfl) ?_
    show (if sortable (ob.map tp) then some (PyData.list (sortD (ob.map tp))) else none) = _
    rw [sortable_tp (fun x hx z => by have := (hq x hx).1; rw [z] at this; cases this), if_pos rfl, sortD_tp]
  have e3 := ev_bin (ev_lst (ds := [tp (fst2 n)]) (evs_cons (ev_v (g := gl (k + 2)) (i := 1) (ρ := wlE n ob i' y5 y6) (τ := τ) rfl) evs_nil) (by simp)) (lc_ne k (i := 7) (f := 1) (j := 0) (srtQ ob) (fst2 n) (items_seq ed rfl) (by rw [srtQ_len]; omega) (by show 7 < 8; decide) (fun _ => rfl) (fun _ => rfl)) (add_lq (l := [fst2 n]) (by rw [List.length_singleton]; omega))
  rw [show lq ([fst2 n] ++ (srtQ ob).filter fun y => !decide (y = fst2 n)) = lq P from by rw [← e]; rfl] at e3
  exact exs_ret' e3
/-! the count -/
abbrev cntS (t p : Int) : Int := t.fdiv (p * p) * (p * p - 1)
def cntF (n : Int) : Int := (prL n).foldl cntS (n * n * n)
theorem cnt_all : ∀ n ∈ NS2, cntF n = if n < 3 then (szW n : Int) else 2 * (szW n : Int) := by decide +kernel
theorem r_count (k : Nat) {n : Int} (hn : 1 ≤ n) (h8 : n ≤ 8) (τ : TA') : run pg (k + 2) 2 [.int n] τ = some (.int (cntF n), τ) := by
  obtain ⟨e1, hb⟩ := r_primes k n hn (by omega) τ
  have hl : (prL n).length ≤ 900 := by
    obtain ⟨y, _, h3⟩ := loopF_foldN (τ := τ) (bd := fun _ ρ => some ρ) (body := fun ρ τ => some (.nx ρ τ)) (fun (told : List Int) (x : Option Sl) => []) PyData.int (prStep n) (fun i told => told.length ≤ i) 900 (rangeI 2 (n - 1).toNat) 0 [] none (by rw [rangeI_len]; omega) (Nat.le_refl _) (fun p hp i told x hi hh => ⟨by have := prStep_len n told p; omega, [], none, rfl, .inl rfl⟩)
    have : (prL n).length ≤ 0 + (rangeI 2 (n - 1).toNat).length := h3
    rw [rangeI_len] at this
    omega
  have key : ∀ (l : List Int) (t : Int) (m : Nat) (x2 : Option Sl), (∀ q ∈ l, 2 ≤ q ∧ q ≤ 900) → Sm m t → m + 41 * l.length ≤ 60000 → ∃ y2, loopF (bindT (.name 2)) (exs (gl (k + 1)) f_count_classes_b0) (l.map .int) [iv' n, iv' t, x2] τ = some (.nx [iv' n, iv' (l.foldl cntS t), y2] τ) := by
    intro l
    induction l with
    | nil => intro t m x2 _ _ _; exact ⟨x2, rfl⟩
    | cons p l ih =>
      intro t m x2 hq st hm
      rw [List.length_cons] at hm
      obtain ⟨p0, p1⟩ := hq p List.mem_cons_self
      have sp : Sm 10 p := by unfold Sm; omega
      have spp : Sm 20 (p * p) := sp.mul sp
      have spp1 : Sm 21 (p * p - 1) := by
        unfold Sm at *
        have : (p * p - 1).natAbs ≤ (p * p).natAbs + 1 := by omega
        omega
      have pp : 0 < p * p := Int.mul_pos (by omega) (by omega)
      have lg := spp.log
      have s1 : Sm m (t.fdiv (p * p)) := by
        rw [Int.fdiv_eq_ediv_of_nonneg t (by omega)]
        have := Int.natAbs_ediv_le_natAbs t (p * p)
        unfold Sm at *
        omega
      have v2 : ev (gl (k + 1)) (.v 2) [iv' n, iv' t, iv' p] τ = some (.int p, τ) := ev_v rfl
      have epp := ev_bin v2 v2 (bop_mul' (sp.okMul sp (by decide)))
      have e : ev (gl (k + 1)) (.bin .mul (.bin .fdiv (.v 1) (.bin .mul (.v 2) (.v 2))) (.bin .sub (.bin .mul (.v 2) (.v 2)) (.int 1))) [iv' n, iv' t, iv' p] τ = some (.int (cntS t p), τ) :=
        ev_bin (ev_bin (ev_v rfl) epp (bop_fdiv' (by omega) (by omega))) (ev_bin epp ev_int (bop_sub' _ _)) (bop_mul' (s1.okMul spp1 (by omega)))
      obtain ⟨y2, e2⟩ := ih (cntS t p) (m + 21) (iv' p) (fun q h => hq q (List.mem_cons_of_mem _ h)) (s1.mul spp1) (by omega)
      refine ⟨y2, ?_⟩
      rw [List.map_cons, loopF]
      show (exs (gl (k + 1)) f_count_classes_b0 [iv' n, iv' t, iv' p] τ).bind _ = _
      unfold f_count_classes_b0
      rw [exs_set' (by show 1 < 3; decide) e, exs]
      exact e2
  have sn : Sm 10 n := by unfold Sm; omega
  obtain ⟨y2, e2⟩ := key (prL n) (n * n * n) 30 none hb ((sn.mul sn).mul sn) (by omega)
  refine rg [iv' n, none, none] rfl rfl rfl ?_
  unfold f_count_classes
  have v0 : ev (gl (k + 1)) (.v 0) [iv' n, none, none] τ = some (.int n, τ) := ev_v rfl
  rw [exs_set' (by show 1 < 3; decide) (ev_bin (ev_bin v0 v0 (bop_mul' (sn.okMul sn (by decide)))) v0 (bop_mul' ((sn.mul sn).okMul sn (by decide))))]
  show exs _ _ [iv' n, iv' (n * n * n), none] τ = _
  rw [exs_fr (items_ints (ev_cal1 (ev_v (d := .int n) rfl) (by rw [gl_call]; exact e1))) e2]
  exact exs_ret' (ev_v rfl)

open Cv
/-! along words -/
theorem led_at {n : Int} (hn : 1 ≤ n) {k : Nat} {P : List Q} {S R : List Int} (h : Pts n k P S R) (enc : Mx → Q) (hk : ∀ m, (enc m).length = k) (hS : ∀ m : Mx, enc (m.mul Lt.s.mx) = stS (enc m)) (hR : ∀ m : Mx, enc (m.mul Lt.r.mx) = stR (enc m)) (lS : Lin n k stS) (lR : Lin n k stR) : ∀ (l : List Lt) (i : Int) (m : Mx), At P i (tclL n (enc m)) → At P (ledI S R i l) (tclL n (enc (l.foldl (fun m t => m.mul t.mx) m)))
  | [], i, m, a => a
  | t :: l, i, m, a => by
    have sS : ∀ {i : Int} {m : Mx}, At P i (tclL n (enc m)) → At P (ixI S i) (tclL n (enc (m.mul Lt.s.mx))) := fun {i m} a => by
      have := at_prm h.s (fun x hx => h.inS hx) a
      rw [tcl_step hn lS (hk m)] at this
      rw [hS]
      exact this
    have sR : ∀ {i : Int} {m : Mx}, At P i (tclL n (enc m)) → At P (ixI R i) (tclL n (enc (m.mul Lt.r.mx))) := fun {i m} a => by
      have := at_prm h.r (fun x hx => h.inR hx) a
      rw [tcl_step hn lR (hk m)] at this
      rw [hR]
      exact this
    refine led_at hn h enc hk hS hR lS lR l (ltI S R i t) (m.mul t.mx) ?_
    cases t with
    | s => exact sS a
    | r => exact sR a
    | R =>
      have := sR (sR a)
      rw [Mx.mul_assoc, show Lt.r.mx.mul Lt.r.mx = Lt.R.mx from by decide] at this
      exact this
def rq2 (m : Mx) : Q := [m.c, m.d]
theorem rq_S (m : Mx) : rq2 (m.mul Lt.s.mx) = stS (rq2 m) := by
  show [m.c * 0 + m.d * 1, m.c * -1 + m.d * 0] = [m.d, -m.c]
  congr 1 <;> (try omega)
  congr 1 <;> (try omega)
theorem rq_R (m : Mx) : rq2 (m.mul Lt.r.mx) = stR (rq2 m) := by
  show [m.c * 0 + m.d * 1, m.c * -1 + m.d * 1] = [m.d, m.d - m.c]
  congr 1 <;> (try omega)
  congr 1 <;> (try omega)
theorem pix_lq {P : List Q} {i : Int} {x : Q} (h : At P i x) : pix (lq P) (.int i) = some (tp x) := by
  obtain ⟨h0, h1⟩ := h
  have e : i = ((i.toNat : Nat) : Int) := by omega
  rw [e]
  exact pix_nat (by rw [List.getElem?_map, h1]; rfl)
theorem at_of {P : List Q} {i : Int} (h0 : 0 ≤ i) (h1 : i < P.length) : ∃ x, At P i x := ⟨P[i.toNat]'(by omega), h0, List.getElem?_eq_getElem (by omega)⟩
theorem ne_tp_f (x : Q) : cop .ne (tp x) (tp x) = some false := by rw [cop_ne_tp, decide_eq_true rfl]; rfl
abbrev en (x2 x3 x4 x5 x6 x7 x8 x9 x10 x11 x12 x13 x14 x15 x16 : Option Sl) : Ev := [none, some (.sh tokD), x2, x3, x4, x5, x6, x7, x8, x9, x10, x11, x12, x13, x14, x15, x16]
theorem b0_ok (k : Nat) {n : Int} (hn : 1 ≤ n) {P : List Q} {S R : List Int} (h : Pts n 2 P S R) {at' : Int} (a0 : 0 ≤ at') (a1 : at' < P.length) (x6 x7 x8 x9 x10 x11 x12 x13 x14 x15 x16 : Option Sl) (τ : TA') :
    ∃ y15 y16, exs (gl (k + 5)) rest_b0 (en (iv' n) (dv' (lq P)) (dv' (cvD S R)) (iv' at') x6 x7 x8 x9 x10 x11 x12 x13 x14 x15 x16) τ = some (.nx (en (iv' n) (dv' (lq P)) (dv' (cvD S R)) (iv' at') x6 x7 x8 x9 x10 x11 x12 x13 x14 y15 y16) τ) := by
  obtain ⟨x, hx⟩ := at_of a0 a1
  obtain ⟨c, d, rfl⟩ := mem_two (h.len x hx.mem)
  have hS := at_prm h.s (fun x hx => h.inS hx) hx
  have hR := at_prm h.r (fun x hx => h.inR hx) hx
  have lS := h.lenS
  have lR := h.c.len
  have n0 : n ≠ 0 := by omega
  unfold rest_b0
  rw [exs_unp' (ev_ix' (ev_v (i := 3) (d := lq P) rfl) (ev_v (i := 5) (d := .int at') rfl) (pix_lq hx)) (show bindT _ _ _ = some (en (iv' n) (dv' (lq P)) (dv' (cvD S R)) (iv' at') x6 x7 x8 x9 x10 x11 x12 x13 x14 (iv' c) (iv' d)) from rfl)]
  generalize hE : en (iv' n) (dv' (lq P)) (dv' (cvD S R)) (iv' at') x6 x7 x8 x9 x10 x11 x12 x13 x14 (iv' c) (iv' d) = E
  have v2 : ev (gl (k + 5)) (.v 2) E τ = some (.int n, τ) := by rw [← hE]; exact ev_v rfl
  have v3 : ev (gl (k + 5)) (.v 3) E τ = some (lq P, τ) := by rw [← hE]; exact ev_v rfl
  have v4 : ev (gl (k + 5)) (.v 4) E τ = some (cvD S R, τ) := by rw [← hE]; exact ev_v rfl
  have v5 : ev (gl (k + 5)) (.v 5) E τ = some (.int at', τ) := by rw [← hE]; exact ev_v rfl
  have vc : ev (gl (k + 5)) (.v 15) E τ = some (.int c, τ) := by rw [← hE]; exact ev_v rfl
  have vd : ev (gl (k + 5)) (.v 16) E τ = some (.int d, τ) := by rw [← hE]; exact ev_v rfl
  have t1 := evT_b (ev_cmp (ev_ix' v3 (ev_ix' (ev_ix' v4 (ev_int (i := 0)) (cv0 S R)) v5 (ixI_at a0 (by omega)).1) (pix_lq hS)) (ev_cal3 (f := 22) v2 vd (ev_neg' vc) (by rw [gl_call]; exact r_pair (k + 4) n0 d (-c) τ)) (ne_tp_f (tclL n [d, -c])))
  have t2 := evT_b (ev_cmp (ev_ix' v3 (ev_ix' (ev_ix' v4 (ev_int (i := 1)) (cv1 S R)) v5 (ixI_at a0 (by omega)).1) (pix_lq hR)) (ev_cal3 (f := 22) v2 vd (ev_bin vd vc (bop_sub' _ _)) (by rw [gl_call]; exact r_pair (k + 4) n0 d (d - c) τ)) (ne_tp_f (tclL n [d, d - c])))
  rw [exs_if0 (by rw [evT_or t1]; show evT _ _ _ _ = _; rw [evT_or1, t2]), exs, ← hE]
  exact ⟨_, _, rfl⟩
theorem b1_ok (k : Nat) {n : Int} (hn : 1 ≤ n) (h30 : n ≤ 30) {P : List Q} {S R : List Int} (h : Pts n 4 P S R) (hb : ∀ q ∈ P, OkQ q) {at' : Int} (a0 : 0 ≤ at') (a1 : at' < P.length) (x2 x3 x4 x9 x10 x11 x12 x13 x14 x15 x16 : Option Sl) (τ : TA') :
    exs (gl (k + 5)) rest_b1 (en x2 x3 x4 (iv' at') (iv' n) (dv' (lq P)) (dv' (cvD S R)) x9 x10 x11 x12 x13 x14 x15 x16) τ = some (.nx (en x2 x3 x4 (iv' at') (iv' n) (dv' (lq P)) (dv' (cvD S R)) x9 x10 x11 x12 x13 x14 x15 x16) τ) := by
  obtain ⟨x, hx⟩ := at_of a0 a1
  obtain ⟨m, rfl, hm⟩ := okQ_mx (hb x hx.mem)
  have hS := at_prm h.s (fun x hx => h.inS hx) hx
  have hR := at_prm h.r (fun x hx => h.inR hx) hx
  have lS := h.lenS
  have lR := h.c.len
  generalize hE : en x2 x3 x4 (iv' at') (iv' n) (dv' (lq P)) (dv' (cvD S R)) x9 x10 x11 x12 x13 x14 x15 x16 = E
  have v6 : ev (gl (k + 5)) (.v 6) E τ = some (.int n, τ) := by rw [← hE]; exact ev_v rfl
  have v7 : ev (gl (k + 5)) (.v 7) E τ = some (lq P, τ) := by rw [← hE]; exact ev_v rfl
  have v8 : ev (gl (k + 5)) (.v 8) E τ = some (cvD S R, τ) := by rw [← hE]; exact ev_v rfl
  have v5 : ev (gl (k + 5)) (.v 5) E τ = some (.int at', τ) := by rw [← hE]; exact ev_v rfl
  have eq : ev (gl (k + 5)) (.ix (.v 7) (.v 5)) E τ = some (m.pd, τ) := ev_ix' v7 v5 (pix_lq hx)
  have rS := r_ltclass (k + 3) (n := n) (by omega) (isRow_tp (mq (m.mul Lt.s.mx))) (by show 4 ≤ 100; decide) (by simp [mq]) τ
  have rR := r_ltclass (k + 3) (n := n) (by omega) (isRow_tp (mq (m.mul Lt.r.mx))) (by show 4 ≤ 100; decide) (by simp [mq]) τ
  have e1 := ev_cal2 (f := 17) v6 (ev_cal2 (f := 15) eq (ev_tup4 (ev_int (i := 0)) (ev_neg1 (i := 1)) (ev_int (i := 1)) (ev_int (i := 0))) (by rw [gl_call]; exact r_lmul (k + 4) hm Lt.s.sm (by decide) τ)) (by rw [gl_call]; exact rS)
  have e2 := ev_cal2 (f := 17) v6 (ev_cal2 (f := 15) eq (ev_tup4 (ev_int (i := 0)) (ev_neg1 (i := 1)) (ev_int (i := 1)) (ev_int (i := 1))) (by rw [gl_call]; exact r_lmul (k + 4) hm Lt.r.sm (by decide) τ)) (by rw [gl_call]; exact rR)
  rw [mq_S] at e1
  rw [mq_R] at e2
  have t1 := evT_b (ev_cmp (ev_ix' v7 (ev_ix' (ev_ix' v8 (ev_int (i := 0)) (cv0 S R)) v5 (ixI_at a0 (by omega)).1) (pix_lq hS)) e1 (ne_tp_f _))
  have t2 := evT_b (ev_cmp (ev_ix' v7 (ev_ix' (ev_ix' v8 (ev_int (i := 1)) (cv1 S R)) v5 (ixI_at a0 (by omega)).1) (pix_lq hR)) e2 (ne_tp_f _))
  unfold rest_b1
  rw [exs_if0 t1, exs_if0 t2, exs]
theorem len_bL (l : List Bool) : (l.flatMap bL).length ≤ 2 * l.length := by
  induction l with
  | nil => simp
  | cons b l ih =>
    rw [List.flatMap_cons, List.length_append, List.length_cons]
    have : (bL b).length = 2 := by cases b <;> rfl
    omega
theorem eq_tpl (k : Nat) (x : Q) (hl : x.length ≤ 100) (τ : TA') : run pg (k + 2) 13 [tp x, tp x] τ = some (.bool true, τ) := eq_tup k x (by omega) τ
theorem cop_inn_tp (x y : Q) : cop .inn (tp x) (.list [tp y]) = some (decide (y = x)) := by
  show (if SeqAt.shaped (tp x) && SeqAt.shaped (.list [tp y]) then some (([tp y] : List PD).any fun z => PyData.eqv z (tp x)) else none) = _
  rw [shaped_tp, show SeqAt.shaped (.list [tp y]) = true from shaped_tps [y], if_pos (show (true && true) = true from rfl), List.any_cons, List.any_nil, eqv_tp, Bool.or_false]
theorem ne_bool_f (b : Bool) : cop .ne (.bool b) (.bool b) = some false := by cases b <;> decide +kernel

open Cv
theorem pts_ok {n : Int} (hn : 1 ≤ n) (h30 : n ≤ 30) {P : List Q} {S R : List Int} (h : Pts n 4 P S R) : ∀ q ∈ P, OkQ q := fun q hq => by
  have hi := ixQ_lt hq
  have hl := h.lenS
  have h1 : ((ixQ P q : Nat) : Int) ∈ R := (sI_perm R).mem_iff.mp (by rw [h.c.r]; exact rangeI_in (by omega) (by omega))
  rw [← h.r] at h1
  obtain ⟨y, hy, e⟩ := List.mem_map.mp h1
  have e1 := ixQ_at (h.inR hy)
  have e2 := ixQ_at hq
  have e' : ixQ P (tclL n (stR y)) = ixQ P q := by
    have : ((ixQ P (tclL n (stR y)) : Nat) : Int) = ((ixQ P q : Nat) : Int) := e
    omega
  rw [e', e2] at e1
  rw [Option.some.inj e1]
  exact okQ_tcl hn h30 (stR_len (h.len y hy))
theorem b2_ok (k : Nat) {n : Int} (hn : 1 ≤ n) {P : List Q} {S R : List Int} (h : Pts n 2 P S R) (hP0 : At P 0 (tclL n [0, 1])) {s : Int} (hs : 1 ≤ s) {P2 : List Q} {S2 R2 : List Int} (h2 : Pts s 4 P2 S2 R2) (hQ0 : At P2 0 (tclL s [1, 0, 0, 1])) (x5 x9 x10 x11 x12 x13 x14 x15 x16 : Option Sl) (τ : TA') :
    ∃ y10 y11 y12 y13 y14 τ', exs (gl (k + 5)) rest_b2 (en (iv' n) (dv' (lq P)) (dv' (cvD S R)) x5 (iv' s) (dv' (lq P2)) (dv' (cvD S2 R2)) x9 x10 x11 x12 x13 x14 x15 x16) τ = some (.nx (en (iv' n) (dv' (lq P)) (dv' (cvD S R)) x5 (iv' s) (dv' (lq P2)) (dv' (cvD S2 R2)) x9 y10 y11 y12 y13 y14 x15 x16) τ') := by
  obtain ⟨v, τ1, e1, v0, v1⟩ := dr' (k + 4) τ (m := 25) (by decide) (by decide)
  obtain ⟨bs, τ2, e2, hbs⟩ := r_word (k + 2) (m := v) v0 (by omega) τ1
  have hl := len_bL bs
  generalize hL : bs.flatMap bL = l at *
  obtain ⟨e3, sM⟩ := r_ofword (k + 3) (l := l) (by omega) τ2
  have lS := h.lenS
  have lS2 := h2.lenS
  have p0 := h.c.pos
  have p2 := h2.c.pos
  have e4 := r_lled (k + 4) h.c l (by omega) (i := 0) (by omega) (by omega) τ2
  have e5 := r_lled (k + 4) h2.c l (by omega) (i := 0) (by omega) (by omega) τ2
  have A1 := led_at hn h rq2 (fun _ => rfl) rq_S rq_R (lin_S2 hn) (lin_R2 hn) l 0 Mx.one hP0
  have A2 := led_at hs h2 mq (fun _ => rfl) mq_S mq_R (lin_S4 hs) (lin_R4 hs) l 0 Mx.one hQ0
  have hM : l.foldl (fun m t => m.mul t.mx) Mx.one = wM l := rfl
  have hd := det_wM l
  rw [hM] at A1 A2
  generalize wM l = M at *
  generalize hg : ledI S R 0 l = g at *
  generalize hg2 : ledI S2 R2 0 l = g2 at *
  have n0 : n ≠ 0 := by omega
  have s0 : s ≠ 0 := by omega
  unfold rest_b2
  rw [exs_set' (by show 10 < 17; decide) (ev_cal2 (f := 20) (ev_v (i := 1) (d := tokD) rfl) (ev_cal2 (f := 0) (ev_v (i := 1) (d := tokD) rfl) (ev_int (i := 25)) (by rw [gl_call]; exact e1)) (by rw [gl_call]; exact e2))]
  show ∃ y10 y11 y12 y13 y14 τ', exs (gl (k + 5)) _ (en (iv' n) (dv' (lq P)) (dv' (cvD S R)) x5 (iv' s) (dv' (lq P2)) (dv' (cvD S2 R2)) x9 (dv' (.str (wd l))) x11 x12 x13 x14 x15 x16) τ2 = _
  rw [exs_set' (by show 11 < 17; decide) (ev_cal1 (f := 21) (ev_v (i := 10) (d := .str (wd l)) rfl) (by rw [gl_call]; exact e3))]
  show ∃ y10 y11 y12 y13 y14 τ', exs (gl (k + 5)) _ (en (iv' n) (dv' (lq P)) (dv' (cvD S R)) x5 (iv' s) (dv' (lq P2)) (dv' (cvD S2 R2)) x9 (dv' (.str (wd l))) (dv' M.pd) x12 x13 x14 x15 x16) τ2 = _
  rw [exs_set' (by show 12 < 17; decide) (ev_cal3 (f := 18) (ev_v (i := 4) (d := cvD S R) rfl) (ev_int (i := 0)) (ev_v (i := 10) (d := .str (wd l)) rfl) (by rw [gl_call]; exact e4))]
  show ∃ y10 y11 y12 y13 y14 τ', exs (gl (k + 5)) _ (en (iv' n) (dv' (lq P)) (dv' (cvD S R)) x5 (iv' s) (dv' (lq P2)) (dv' (cvD S2 R2)) x9 (dv' (.str (wd l))) (dv' M.pd) (iv' g) x13 x14 x15 x16) τ2 = _
  have v11 : ∀ {y13 y14 : Option Sl}, ev (gl (k + 5)) (.v 11) (en (iv' n) (dv' (lq P)) (dv' (cvD S R)) x5 (iv' s) (dv' (lq P2)) (dv' (cvD S2 R2)) x9 (dv' (.str (wd l))) (dv' M.pd) (iv' g) y13 y14 x15 x16) τ2 = some (M.pd, τ2) := ev_v rfl
  have v2 : ∀ {y13 y14 : Option Sl}, ev (gl (k + 5)) (.v 2) (en (iv' n) (dv' (lq P)) (dv' (cvD S R)) x5 (iv' s) (dv' (lq P2)) (dv' (cvD S2 R2)) x9 (dv' (.str (wd l))) (dv' M.pd) (iv' g) y13 y14 x15 x16) τ2 = some (.int n, τ2) := ev_v rfl
  have v12 : ∀ {y13 y14 : Option Sl}, ev (gl (k + 5)) (.v 12) (en (iv' n) (dv' (lq P)) (dv' (cvD S R)) x5 (iv' s) (dv' (lq P2)) (dv' (cvD S2 R2)) x9 (dv' (.str (wd l))) (dv' M.pd) (iv' g) y13 y14 x15 x16) τ2 = some (.int g, τ2) := ev_v rfl
  have i0 : ∀ {y13 y14 : Option Sl}, ev (gl (k + 5)) (.ix (.v 11) (.int 0)) (en (iv' n) (dv' (lq P)) (dv' (cvD S R)) x5 (iv' s) (dv' (lq P2)) (dv' (cvD S2 R2)) x9 (dv' (.str (wd l))) (dv' M.pd) (iv' g) y13 y14 x15 x16) τ2 = some (.int M.a, τ2) := ev_ix' v11 (ev_int (i := 0)) (Mx.pd0 M)
  have i2 : ∀ {y13 y14 : Option Sl}, ev (gl (k + 5)) (.ix (.v 11) (.int 2)) (en (iv' n) (dv' (lq P)) (dv' (cvD S R)) x5 (iv' s) (dv' (lq P2)) (dv' (cvD S2 R2)) x9 (dv' (.str (wd l))) (dv' M.pd) (iv' g) y13 y14 x15 x16) τ2 = some (.int M.c, τ2) := ev_ix' v11 (ev_int (i := 2)) (Mx.pd2 M)
  have i3 : ∀ {y13 y14 : Option Sl}, ev (gl (k + 5)) (.ix (.v 11) (.int 3)) (en (iv' n) (dv' (lq P)) (dv' (cvD S R)) x5 (iv' s) (dv' (lq P2)) (dv' (cvD S2 R2)) x9 (dv' (.str (wd l))) (dv' M.pd) (iv' g) y13 y14 x15 x16) τ2 = some (.int M.d, τ2) := ev_ix' v11 (ev_int (i := 3)) (Mx.pd3 M)
  have t1 := evT_b (ev_cmp (ev_ix' (ev_v (g := gl (k + 5)) (i := 3) (d := lq P) (ρ := en (iv' n) (dv' (lq P)) (dv' (cvD S R)) x5 (iv' s) (dv' (lq P2)) (dv' (cvD S2 R2)) x9 (dv' (.str (wd l))) (dv' M.pd) (iv' g) x13 x14 x15 x16) (τ := τ2) rfl) v12 (pix_lq A1)) (ev_cal3 (f := 22) v2 i2 i3 (by rw [gl_call]; exact r_pair (k + 4) n0 M.c M.d τ2)) (ne_tp_f (tclL n [M.c, M.d])))
  rw [exs_if0 t1]
  -- in the group or not
  obtain ⟨b, hb, ein⟩ : ∃ b : Bool, b = decide (g = 0) ∧ ev (gl (k + 5)) (.ands (.cons (.cmp .eq (.bin .mod (.bi .int (.cons (.ix (.v 11) (.int 2)) .nil)) (.v 2)) (.int 0)) (.cons (.cmp .inn (.call 22 (.cons (.v 2) (.cons (.ix (.v 11) (.int 0)) (.cons (.ix (.v 11) (.int 3)) .nil)))) (.lst (.cons (.call 22 (.cons (.v 2) (.cons (.int 1) (.cons (.int 1) .nil)))) .nil))) .nil))) (en (iv' n) (dv' (lq P)) (dv' (cvD S R)) x5 (iv' s) (dv' (lq P2)) (dv' (cvD S2 R2)) x9 (dv' (.str (wd l))) (dv' M.pd) (iv' g) x13 x14 x15 x16) τ2 = some (.bool b, τ2) := by
    have q1 := ev_cmp (ev_bin (ev_bi1 (b := .int) (r := .int M.c) i2 rfl) (v2 (y13 := x13) (y14 := x14)) (bop_mod' n0)) (ev_int (i := 0)) (cop_eq_int _ _)
    have q2 := ev_cmp (ev_cal3 (f := 22) v2 (i0 (y13 := x13) (y14 := x14)) i3 (by rw [gl_call]; exact r_pair (k + 4) n0 M.a M.d τ2)) (ev_lst (evs_cons (ev_cal3 (f := 22) v2 (ev_int (i := 1)) (ev_int (i := 1)) (by rw [gl_call]; exact r_pair (k + 4) n0 1 1 τ2)) evs_nil) (by simp)) (cop_inn_tp (tclL n [M.a, M.d]) (tclL n [1, 1]))
    have hiff : (g = 0) ↔ (M.c.fmod n = 0 ∧ tclL n [1, 1] = tclL n [M.a, M.d]) := by
      rw [eq_comm (a := tclL n [1, 1]), ← in_iff hn (a := M.a) (b := M.b) (c := M.c) (d := M.d) hd]
      constructor
      · intro z
        subst z
        have : some (tclL n (rq2 M)) = some (tclL n [0, 1]) := A1.2.symm.trans hP0.2
        exact Option.some.inj this
      · intro z
        have A3 : At P g (tclL n [0, 1]) := by rw [← z]; exact A1
        exact at_uniq h.nd A3 hP0
    have qa := ev_andB (b := .cmp .inn (.call 22 (.cons (.v 2) (.cons (.ix (.v 11) (.int 0)) (.cons (.ix (.v 11) (.int 3)) .nil)))) (.lst (.cons (.call 22 (.cons (.v 2) (.cons (.int 1) (.cons (.int 1) .nil)))) .nil))) (es := .nil) q1
    by_cases hc : M.c.fmod n = 0
    · rw [decide_eq_true hc, if_pos rfl, ev_and1, q2] at qa
      refine ⟨_, ?_, qa⟩
      rw [decide_eq_decide, hiff]
      exact ⟨fun z => ⟨hc, z⟩, fun z => z.2⟩
    · rw [decide_eq_false hc, if_neg (by decide)] at qa
      refine ⟨_, ?_, qa⟩
      exact (decide_eq_false fun z => hc (hiff.mp z).1).symm
  rw [exs_set' (by show 13 < 17; decide) ein]
  show ∃ y10 y11 y12 y13 y14 τ', exs (gl (k + 5)) _ (en (iv' n) (dv' (lq P)) (dv' (cvD S R)) x5 (iv' s) (dv' (lq P2)) (dv' (cvD S2 R2)) x9 (dv' (.str (wd l))) (dv' M.pd) (iv' g) (dv' (.bool b)) x14 x15 x16) τ2 = _
  have t2 := evT_b (ev_cmp (ev_cmp (v12 (y13 := dv' (.bool b)) (y14 := x14)) (ev_int (i := 0)) (cop_eq_int _ _)) (ev_v (i := 13) (d := .bool b) rfl) (show cop .ne (.bool (decide (g = 0))) (.bool b) = some false by rw [hb]; exact ne_bool_f _))
  rw [exs_if0 t2]
  rw [exs_set' (by show 14 < 17; decide) (ev_ix' (ev_v (i := 7) (d := lq P2) rfl) (ev_cal3 (f := 18) (ev_v (i := 8) (d := cvD S2 R2) rfl) (ev_int (i := 0)) (ev_v (i := 10) (d := .str (wd l)) rfl) (by rw [gl_call]; exact e5)) (pix_lq A2))]
  show ∃ y10 y11 y12 y13 y14 τ', exs (gl (k + 5)) _ (en (iv' n) (dv' (lq P)) (dv' (cvD S R)) x5 (iv' s) (dv' (lq P2)) (dv' (cvD S2 R2)) x9 (dv' (.str (wd l))) (dv' M.pd) (iv' g) (dv' (.bool b)) (dv' (tp (tclL s (mq M)))) x15 x16) τ2 = _
  have v6 : ev (gl (k + 5)) (.v 6) (en (iv' n) (dv' (lq P)) (dv' (cvD S R)) x5 (iv' s) (dv' (lq P2)) (dv' (cvD S2 R2)) x9 (dv' (.str (wd l))) (dv' M.pd) (iv' g) (dv' (.bool b)) (dv' (tp (tclL s (mq M)))) x15 x16) τ2 = some (.int s, τ2) := ev_v rfl
  have v14 : ev (gl (k + 5)) (.v 14) (en (iv' n) (dv' (lq P)) (dv' (cvD S R)) x5 (iv' s) (dv' (lq P2)) (dv' (cvD S2 R2)) x9 (dv' (.str (wd l))) (dv' M.pd) (iv' g) (dv' (.bool b)) (dv' (tp (tclL s (mq M)))) x15 x16) τ2 = some (tp (tclL s (mq M)), τ2) := ev_v rfl
  have rl := r_ltclass (k + 3) s0 (isRow_tp (mq M)) (by show 4 ≤ 100; decide) (by simp [mq]) τ2
  have rt := r_tclass (k + 3) s0 (isRow_tp (mq M)) (by show 4 ≤ 100; decide) (by simp [mq]) τ2
  have t3 := evT_b (ev_cmp v14 (ev_cal2 (f := 17) v6 (v11 (y13 := dv' (.bool b)) (y14 := dv' (tp (tclL s (mq M))))) (by rw [gl_call]; exact rl)) (ne_tp_f (tclL s (mq M))))
  have t4 := nt_eq (ev_cal2 (f := 4) v6 (v11 (y13 := dv' (.bool b)) (y14 := dv' (tp (tclL s (mq M))))) (by rw [gl_call]; exact rt)) v14 (by rw [gl_call]; exact eq_tpl (k + 3) (tclL s (mq M)) (by rw [tcl_len]; show 4 ≤ 100; decide) τ2)
  rw [exs_if0 (by rw [evT_or t3]; show evT _ _ _ _ = _; rw [evT_or1, t4]), exs]
  exact ⟨_, _, _, _, _, τ2, rfl⟩
theorem int_bool (b : Bool) : biD .int [.bool b] = some (.int (if b then 1 else 0)) := by cases b <;> rfl
theorem first_all : ∀ n ∈ NS1, tclL n [0, 1] = [0, if n > 1 then 1 else 0] := by decide +kernel
theorem ns1_bd {n : Int} (h : n ∈ NS1) : 1 ≤ n ∧ n ≤ 24 := by
  simp only [NS1, List.mem_cons, List.not_mem_nil, or_false] at h
  omega
theorem len_lq (P : List Q) : biD .len [lq P] = some (.int (P.length : Nat)) := by show some (PyData.int ((P.map tp).length : Nat)) = _; rw [List.length_map]
theorem len_tp (P : Q) : biD .len [tp P] = some (.int (P.length : Nat)) := by show some (PyData.int ((P.map PyData.int).length : Nat)) = _; rw [List.length_map]
theorem hE (τ : TA') : ∃ τ', exs (gl 100) rest (none :: some (.sh tokD) :: List.replicate (lawN.length - 2) none) τ = some (.rt (.bool true) τ') := by
  show ∃ τ', exs (gl (95 + 5)) rest (en none none none none none none none none none none none none none none none) τ = _
  unfold rest
  obtain ⟨y, hy, τ1, e1⟩ := r_pick 98 (NS1.map .int) (by decide) (by decide) τ
  obtain ⟨n, hn, rfl⟩ := List.mem_map.mp hy
  obtain ⟨n1, n24⟩ := ns1_bd hn
  have eL : ev (gl (95 + 5)) (.lst (.cons (.int 1) (.cons (.int 2) (.cons (.int 3) (.cons (.int 4) (.cons (.int 5) (.cons (.int 6) (.cons (.int 7) (.cons (.int 8) (.cons (.int 9) (.cons (.int 10) (.cons (.int 11) (.cons (.int 12) (.cons (.int 13) (.cons (.int 14) (.cons (.int 15) (.cons (.int 16) (.cons (.int 17) (.cons (.int 18) (.cons (.int 19) (.cons (.int 20) (.cons (.int 21) (.cons (.int 22) (.cons (.int 24) .nil)))))))))))))))))))))))) (en none none none none none none none none none none none none none none none) τ = some (.list (NS1.map .int), τ) := by
    refine ev_lst ?_ (by decide)
    iterate 23 refine evs_cons ev_int ?_
    exact evs_nil
  rw [exs_set' (by show 2 < 17; decide) (ev_cal2 (f := 12) (ev_v (i := 1) (d := tokD) rfl) eL (by rw [gl_call]; exact e1))]
  show ∃ τ', exs (gl (95 + 5)) _ (en (iv' n) none none none none none none none none none none none none none none) τ1 = _
  obtain ⟨P, S, R, hp1, ho1, h, h0⟩ := one_all n hn
  rw [← first_all n hn] at h0
  have lS := h.lenS
  have big := h.c.big
  have pos := h.c.pos
  have r1 := r_ones 98 n1 (show n ≤ 30 by omega) τ1
  rw [ho1] at r1
  rw [exs_set' (by show 3 < 17; decide) (ev_cal1 (f := 23) (ev_v (i := 2) (d := .int n) rfl) (by rw [gl_call]; exact r1))]
  rw [exs_set' (by show 4 < 17; decide) (ev_cal1 (f := 8) (ev_v (i := 2) (d := .int n) rfl) (by rw [gl_call]; exact r_cone 98 n1 (show n ≤ 30 by omega) hp1 h τ1))]
  show ∃ τ', exs (gl (95 + 5)) _ (en (iv' n) (dv' (lq P)) (dv' (cvD S R)) none none none none none none none none none none none none) τ1 = _
  have hP0 : At P 0 (tclL n [0, 1]) := ⟨by decide, h0⟩
  have v2 : ev (gl (95 + 5)) (.v 2) (en (iv' n) (dv' (lq P)) (dv' (cvD S R)) none none none none none none none none none none none none) τ1 = some (.int n, τ1) := ev_v rfl
  have v3 : ev (gl (95 + 5)) (.v 3) (en (iv' n) (dv' (lq P)) (dv' (cvD S R)) none none none none none none none none none none none none) τ1 = some (lq P, τ1) := ev_v rfl
  have v4 : ev (gl (95 + 5)) (.v 4) (en (iv' n) (dv' (lq P)) (dv' (cvD S R)) none none none none none none none none none none none none) τ1 = some (cvD S R, τ1) := ev_v rfl
  have t1 := evT_nt (evT_b (ev_cal1 (f := 19) v4 (by rw [gl_call]; exact r_iscov 98 h.c τ1)))
  have t2 := evT_b (ev_cmp (ev_bi1 (ev_ix' v4 (ev_int (i := 0)) (cv0 S R)) (len_tp S)) (ev_bi1 v3 (len_lq P)) (cop_ne_int _ _))
  rw [lS, decide_eq_true rfl] at t2
  have t3 := evT_b (ev_cmp (ev_ix' v3 (ev_int (i := 0)) (pix_lq hP0)) (ev_tup2 (ev_int (i := 0)) (ev_bi1 (ev_cmp v2 (ev_int (i := 1)) (cop_gt_int _ _)) (int_bool _))) (show cop .ne (tp (tclL n [0, 1])) (.tuple [.int 0, .int (if decide (1 < n) then 1 else 0)]) = some false by
    rw [first_all n hn]
    by_cases h1 : n > 1
    · rw [if_pos h1, decide_eq_true (show 1 < n from h1)]
      exact ne_tp_f [0, 1]
    · rw [if_neg h1, decide_eq_false (show ¬ 1 < n from h1)]
      exact ne_tp_f [0, 0]))
  rw [exs_if0 (by rw [evT_or t1]; show evT _ _ _ _ = _; rw [evT_or t2]; show evT _ _ _ _ = _; rw [evT_or1, t3])]
  obtain ⟨ρ', τ', f1, y5, y15, y16, rfl, rfl⟩ := loopF_inv (bd := bindT (.name 5)) (body := exs (gl (95 + 5)) rest_b0) (fun _ ρ τ => ∃ x5 x15 x16, ρ = en (iv' n) (dv' (lq P)) (dv' (cvD S R)) x5 none none none none none none none none none x15 x16 ∧ τ = τ1) ((rangeI 0 ((P.length : Nat) : Int).toNat).map .int) 0 (en (iv' n) (dv' (lq P)) (dv' (cvD S R)) none none none none none none none none none none none none) τ1
    (by
      rintro j d ρ τ' hd ⟨x5, x15, x16, rfl, rfl⟩
      rw [List.getElem?_map, Option.map_eq_some_iff] at hd
      obtain ⟨a, ha, rfl⟩ := hd
      have ha := rangeI_mem (List.mem_of_getElem? ha)
      obtain ⟨y15, y16, e⟩ := b0_ok 95 n1 h (at' := a) (by omega) (by omega) none none none none none none none none none x15 x16 τ'
      exact ⟨_, _, _, rfl, .inl e, _, _, _, rfl, rfl⟩)
    ⟨_, _, _, rfl, rfl⟩
  rw [exs_fr (rng_items (ev_bi1 v3 (len_lq P)) (by omega) (by omega)) f1]
  -- the second half
  obtain ⟨v, τ2, e2, w0, w1⟩ := dr' 99 τ' (m := 8) (by decide) (by decide)
  obtain ⟨s, hs⟩ : ∃ s : Int, s = 1 + v := ⟨_, rfl⟩
  have s1 : 1 ≤ s := by omega
  have s8 : s ≤ 8 := by omega
  have hs2 : s ∈ NS2 := by
    simp only [NS2, List.mem_cons, List.not_mem_nil, or_false]
    omega
  obtain ⟨P2, S2, R2, oa, ob, ha, hpa, hb, hpb, h2, hsz⟩ := two_all2 s hs2
  have lS2 := h2.lenS
  have big2 := h2.c.big
  have pos2 := h2.c.pos
  rw [exs_set' (by show 6 < 17; decide) (ev_bin (ev_int (i := 1)) (ev_cal2 (f := 0) (ev_v (i := 1) (d := tokD) rfl) (ev_int (i := 8)) (by rw [gl_call]; exact e2)) (bop_add' 1 v)), ← hs]
  rw [exs_set' (by show 7 < 17; decide) (ev_cal1 (f := 24) (ev_v (i := 6) (d := .int s) rfl) (by rw [gl_call]; exact r_wholes 97 s1 (by omega) hb hpb (by omega) τ2))]
  rw [exs_set' (by show 8 < 17; decide) (ev_cal1 (f := 11) (ev_v (i := 6) (d := .int s) rfl) (by rw [gl_call]; exact r_cwhole 97 (by omega) ha hpa h2 τ2))]
  show ∃ τ', exs (gl (95 + 5)) _ (en (iv' n) (dv' (lq P)) (dv' (cvD S R)) y5 (iv' s) (dv' (lq P2)) (dv' (cvD S2 R2)) none none none none none none y15 y16) τ2 = _
  have hQ0 : At P2 0 (tclL s [1, 0, 0, 1]) := ⟨by decide, by rw [← hpa]; rfl⟩
  have v6 : ev (gl (95 + 5)) (.v 6) (en (iv' n) (dv' (lq P)) (dv' (cvD S R)) y5 (iv' s) (dv' (lq P2)) (dv' (cvD S2 R2)) none none none none none none y15 y16) τ2 = some (.int s, τ2) := ev_v rfl
  have v7 : ev (gl (95 + 5)) (.v 7) (en (iv' n) (dv' (lq P)) (dv' (cvD S R)) y5 (iv' s) (dv' (lq P2)) (dv' (cvD S2 R2)) none none none none none none y15 y16) τ2 = some (lq P2, τ2) := ev_v rfl
  have v8 : ev (gl (95 + 5)) (.v 8) (en (iv' n) (dv' (lq P)) (dv' (cvD S R)) y5 (iv' s) (dv' (lq P2)) (dv' (cvD S2 R2)) none none none none none none y15 y16) τ2 = some (cvD S2 R2, τ2) := ev_v rfl
  have u1 := evT_nt (evT_b (ev_cal1 (f := 19) v8 (by rw [gl_call]; exact r_iscov 98 h2.c τ2)))
  have u2 := evT_b (ev_cmp (ev_bi1 (ev_ix' v8 (ev_int (i := 0)) (cv0 S2 R2)) (len_tp S2)) (ev_bi1 v7 (len_lq P2)) (cop_ne_int _ _))
  rw [lS2, decide_eq_true rfl] at u2
  rw [exs_if0 (τ1 := τ2) (by rw [evT_or u1]; show evT _ _ _ _ = _; rw [evT_or1, u2]; rfl)]
  have cw : ev (gl (95 + 5)) (.ite (.cmp .lt (.v 6) (.int 3)) (.bi .len (.cons (.v 7) .nil)) (.bin .mul (.int 2) (.bi .len (.cons (.v 7) .nil)))) (en (iv' n) (dv' (lq P)) (dv' (cvD S R)) y5 (iv' s) (dv' (lq P2)) (dv' (cvD S2 R2)) none none none none none none y15 y16) τ2 = some (.int (cntF s), τ2) := by
    rw [ev_ite (ev_cmp v6 (ev_int (i := 3)) (clt_int _ _)), cnt_all s hs2, ← hsz]
    by_cases h3 : s < 3
    · rw [decide_eq_true h3, if_pos rfl, if_pos h3]
      exact ev_bi1 v7 (len_lq P2)
    · rw [decide_eq_false h3, if_neg (by decide), if_neg h3]
      exact ev_bin ev_int (ev_bi1 v7 (len_lq P2)) (bop_mul' ((show Sm 100 (2 : Int) by unfold Sm; exact Nat.lt_of_lt_of_le (show 2 < 2 ^ 2 by decide) (Nat.pow_le_pow_right (by decide) (by decide))).okMul (show Sm 100 ((P2.length : Nat) : Int) by unfold Sm; exact Nat.lt_of_lt_of_le (show ((P2.length : Nat) : Int).natAbs < 2 ^ 10 by omega) (Nat.pow_le_pow_right (by decide) (by decide))) (by decide)))
  have u3 := evT_b (ev_cmp (ev_cal1 (f := 2) v6 (by rw [gl_call]; exact r_count 98 s1 s8 τ2)) cw (cop_ne_int _ _))
  rw [decide_eq_true rfl] at u3
  rw [exs_if0 u3]
  obtain ⟨ρ', τ', f2, z5, rfl, rfl⟩ := loopF_inv (bd := bindT (.name 5)) (body := exs (gl (95 + 5)) rest_b1) (fun _ ρ τ => ∃ x5, ρ = en (iv' n) (dv' (lq P)) (dv' (cvD S R)) x5 (iv' s) (dv' (lq P2)) (dv' (cvD S2 R2)) none none none none none none y15 y16 ∧ τ = τ2) ((rangeI 0 ((P2.length : Nat) : Int).toNat).map .int) 0 (en (iv' n) (dv' (lq P)) (dv' (cvD S R)) y5 (iv' s) (dv' (lq P2)) (dv' (cvD S2 R2)) none none none none none none y15 y16) τ2
    (by
      rintro j d ρ τ' hd ⟨x5, rfl, rfl⟩
      rw [List.getElem?_map, Option.map_eq_some_iff] at hd
      obtain ⟨a, ha, rfl⟩ := hd
      have ha := rangeI_mem (List.mem_of_getElem? ha)
      exact ⟨_, _, _, rfl, .inl (b1_ok 95 s1 (by omega) h2 (pts_ok s1 (by omega) h2) (at' := a) (by omega) (by omega) _ _ _ none none none none none none y15 y16 τ'), _, rfl, rfl⟩)
    ⟨_, rfl, rfl⟩
  rw [exs_fr (rng_items (ev_bi1 v7 (len_lq P2)) (by omega) (by omega)) f2]
  obtain ⟨ρ', τ3, f3, z9, z10, z11, z12, z13, z14, rfl⟩ := loopF_inv (bd := bindT (.name 9)) (body := exs (gl (95 + 5)) rest_b2) (fun _ ρ _ => ∃ x9 x10 x11 x12 x13 x14, ρ = en (iv' n) (dv' (lq P)) (dv' (cvD S R)) z5 (iv' s) (dv' (lq P2)) (dv' (cvD S2 R2)) x9 x10 x11 x12 x13 x14 y15 y16) ((rangeI 0 (8 : Int).toNat).map .int) 0 (en (iv' n) (dv' (lq P)) (dv' (cvD S R)) z5 (iv' s) (dv' (lq P2)) (dv' (cvD S2 R2)) none none none none none none y15 y16) τ'
    (by
      rintro j d ρ τ1 hd ⟨x9, x10, x11, x12, x13, x14, rfl⟩
      rw [List.getElem?_map, Option.map_eq_some_iff] at hd
      obtain ⟨a, _, rfl⟩ := hd
      obtain ⟨y10, y11, y12, y13, y14, τ2, e⟩ := b2_ok 95 n1 h hP0 s1 h2 hQ0 z5 (iv' a) x10 x11 x12 x13 x14 y15 y16 τ1
      exact ⟨_, _, τ2, rfl, .inl e, _, _, _, _, _, _, rfl⟩)
    ⟨_, _, _, _, _, _, rfl⟩
  rw [exs_fr (rng_items ev_int (by decide) (by decide)) f3]
  exact ⟨τ3, exs_ret' (by rw [ev])⟩
theorem all_mk {l : PySem.W.OpenLaw} {w : World} {K : PySem.W.Frag} {h : Heap} {mg : Str → Option Value} {fa f1 : Addr} (X : K.In h) (G : h.Ns mainGlobals mg) (hfa : mg "law" = some (.ref fa))
    {od1 an1 : Option Addr} {sl1 : Array (Option Value)} {oc1 kV1 dc1 pm1 cd1 ct1 : Value} 
    (a1 : PySem.W.nsIn K mainGlobals "law" = some (some (.ref f1))) (l1 : K.lookup f1 = some ⟨oc1, od1, .func (PySem.W.fnOf "law" "law" (defArgs sLaw) (defBody sLaw) (defScope sLaw) .none kV1 dc1 pm1 an1 cd1 ct1), sl1⟩) (c1 : PySem.W.codeIn K cd1 "law" = true) (k1 : PySem.W.keepIn K (.ref f1) = true)
    (dS : ∃ f fd, DefAt K mg "_law_state" sState f fd ["script"]) (dA : AllD K mg L) (z : AllZ K tb.bl) (zm : AllM K tb.mf) (zk : AllK K tb.cns cons) (zd : AllDc K w tb.dcs dcts)  :
    ∃ fd : FuncData, (∀ (s : Shared) (v : Value), BindsTo s fd ⟨[v], []⟩ [("script", v)]) ∧ ∀ base : Heap, K.In base → base.Ns mainGlobals mg → (∀ p ∈ ([] : List (Addr × Addr)), GxR.TabB base mg p.1 p.2) → FnOk l.prog w K mg base CX0 (100 + (0 + 1) + 1) fa fd ["script"] (spLaw (([] : List (Addr × Addr)).map (·.2)) K) := by
  have e := hfa.symm.trans (PySem.W.mg_of X G a1)
  cases e
  have F1 := fun_mk (st := sLaw) l1 c1 k1
  obtain ⟨fS, fdS, AS⟩ := dS
  have zz := z.get X G
  have ml := zz "len" (by decide +kernel)
  have mi := zz "int" (by decide +kernel)
  have ma := zz "abs" (by decide +kernel)
  refine ⟨PySem.W.fnOf "law" "law" (defArgs sLaw) (defBody sLaw) (defScope sLaw) .none kV1 dc1 pm1 an1 cd1 ct1, fun s v => .of_eq rfl, fun base _ _ hTB => ?_⟩
  exact ok_lawA (p := pg) (tb := tb) (ts := L.map (·.2)) (N := lawN) F1 scLaw rfl rfl rfl (by decide +kernel) (by decide +kernel) (by decide +kernel) (fun lv => ok_state AS.F mi ma) AS.b AS.F.kp AS.m
    (fun a b => pgOkA X G rfl dA allC rfl rfl (no_prim rfl) z zm zk zd (by decide +kernel) ⟨fun z => (by cases z), fun z => (by cases z), fun z => (by cases z), fun z => (by cases z), fun z => (by cases z), fun z => (by cases z), fun z => (by cases z), fun z => (by cases z), fun z => (by cases z), fun z => (by cases z), fun z => (by cases z), fun z => (by cases z), fun z => (by cases z), fun z => (by cases z), fun z => (by cases z), fun z => (by cases z), fun z => (by cases z), fun z => (by cases z), fun z => (by cases z), fun z => (by cases z), fun z => (by cases z), fun z => (by cases z), fun z => (by cases z), fun z => (by cases z), fun z => (by cases z), trivial⟩ hTB fun F => ok_draw F ml mi) rfl rfl chkLaw hE
end Fh.K38
open PySem PySem.W PyProof.Rows
set_option maxHeartbeats 0 in
theorem PySem.Challenge.cw_fareyhouse_k38_whole_gamma_one_and_gamma_holds : PySem.Challenge.rw_fareyhouse_k38_whole_gamma_one_and_gamma.Holds := by
  w_on; o_law; k_head; (case hw => w_witness2)
  k_fill
  refine Fh.walk_ofB (l := PySem.Challenge.rw_fareyhouse_k38_whole_gamma_one_and_gamma) (n := 63) (k := 100 + (0 + 1) + 1) (x := "script") (CX := fun _ => L2.CX0) (sp := fun w => Fh.spLaw [] _) rfl (by decide) rfl ⟨rfl, by decide, by decide⟩ (fun w h Y => PySem.W.kIn_of Y) ?F (fun _ _ a ns hl hb hS => ⟨a, ns, rfl, hS, ⟨hl, hb⟩, fun c hc => (by cases hc), fun _ => rfl⟩) (fun _ _ _ _ _ h => h)
  case F =>
    intro w mg fa h KX G hmg
    refine' (fun q => q.imp fun fd y => ⟨y.1, fun base h1 h2 => y.2 base h1 h2 fun p hp => (by cases hp)⟩) (Fh.K38.all_mk KX G hmg ?a1 ?l1 ?c1 ?k1 ?dS ⟨?d0, ?d1, ?d2, ?d3, ?d4, ?d5, ?d6, ?d7, ?d8, ?d9, ?d10, ?d11, ?d12, ?d13, ?d14, ?d15, ?d16, ?d17, ?d18, ?d19, ?d20, ?d21, ?d22, ?d23, ?d24, trivial⟩ ⟨?z0, ?z1, ?z2, ?z3, ?z4, ?z5, ?z6, ?z7, ?z8, ?z9, ?z10, ?z11, ?z12, trivial⟩ ⟨?m0, trivial⟩ ⟨?c_0, trivial⟩ trivial)
    (case a1 => k_is); (case l1 => k_is); (case c1 => k_is); (case k1 => k_is)
    (case dS => refine' Fh.defAt_mk KX G ?a ?l ?c ?k Fh.K38.bd_f_law_state; (case a => k_is); (case l => k_is); (case c => k_is); (case k => k_is))
    (case d0 => refine' Fh.defAt_mk KX G ?a ?l ?c ?k Fh.K38.bd_f_law_draw; (case a => k_is); (case l => k_is); (case c => k_is); (case k => k_is))
    (case d1 => refine' Fh.defAt_mk KX G ?a ?l ?c ?k Fh.K38.bd_f_primes_of; (case a => k_is); (case l => k_is); (case c => k_is); (case k => k_is))
    (case d2 => refine' Fh.defAt_mk KX G ?a ?l ?c ?k Fh.K38.bd_f_count_classes; (case a => k_is); (case l => k_is); (case c => k_is); (case k => k_is))
    (case d3 => refine' Fh.defAt_mk KX G ?a ?l ?c ?k Fh.K38.bd_f_class_of; (case a => k_is); (case l => k_is); (case c => k_is); (case k => k_is))
    (case d4 => refine' Fh.defAt_mk KX G ?a ?l ?c ?k Fh.K38.bd_f_turn_class; (case a => k_is); (case l => k_is); (case c => k_is); (case k => k_is))
    (case d5 => refine' Fh.defAt_mk KX G ?a ?l ?c ?k Fh.K38.bd_f_cover_of; (case a => k_is); (case l => k_is); (case c => k_is); (case k => k_is))
    (case d6 => refine' Fh.defAt_mk KX G ?a ?l ?c ?k Fh.K38.bd_f_cover_of_4; (case a => k_is); (case l => k_is); (case c => k_is); (case k => k_is))
    (case d7 => refine' Fh.defAt_mk KX G ?a ?l ?c ?k Fh.K38.bd_f_up_to_sign; (case a => k_is); (case l => k_is); (case c => k_is); (case k => k_is))
    (case d8 => refine' Fh.defAt_mk KX G ?a ?l ?c ?k Fh.K38.bd_f_cover_one; (case a => k_is); (case l => k_is); (case c => k_is); (case k => k_is))
    (case d9 => refine' Fh.defAt_mk KX G ?a ?l ?c ?k Fh.K38.bd_f_step_s; (case a => k_is); (case l => k_is); (case c => k_is); (case k => k_is))
    (case d10 => refine' Fh.defAt_mk KX G ?a ?l ?c ?k Fh.K38.bd_f_step_r; (case a => k_is); (case l => k_is); (case c => k_is); (case k => k_is))
    (case d11 => refine' Fh.defAt_mk KX G ?a ?l ?c ?k Fh.K38.bd_f_cover_whole; (case a => k_is); (case l => k_is); (case c => k_is); (case k => k_is))
    (case d12 => refine' Fh.defAt_mk KX G ?a ?l ?c ?k Fh.K38.bd_f_law_pick; (case a => k_is); (case l => k_is); (case c => k_is); (case k => k_is))
    (case d13 => refine' Fh.defAt_mk KX G ?a ?l ?c ?k Fh.K38.bd_f_law_eq; (case a => k_is); (case l => k_is); (case c => k_is); (case k => k_is))
    (case d14 => refine' Fh.defAt_mk KX G ?a ?l ?c ?k Fh.K38.bd_f_law_gcd; (case a => k_is); (case l => k_is); (case c => k_is); (case k => k_is))
    (case d15 => refine' Fh.defAt_mk KX G ?a ?l ?c ?k Fh.K38.bd_f_law_mul; (case a => k_is); (case l => k_is); (case c => k_is); (case k => k_is))
    (case d16 => refine' Fh.defAt_mk KX G ?a ?l ?c ?k Fh.K38.bd_f_law_class; (case a => k_is); (case l => k_is); (case c => k_is); (case k => k_is))
    (case d17 => refine' Fh.defAt_mk KX G ?a ?l ?c ?k Fh.K38.bd_f_law_turn_class; (case a => k_is); (case l => k_is); (case c => k_is); (case k => k_is))
    (case d18 => refine' Fh.defAt_mk KX G ?a ?l ?c ?k Fh.K38.bd_f_law_led; (case a => k_is); (case l => k_is); (case c => k_is); (case k => k_is))
    (case d19 => refine' Fh.defAt_mk KX G ?a ?l ?c ?k Fh.K38.bd_f_law_is_cover; (case a => k_is); (case l => k_is); (case c => k_is); (case k => k_is))
    (case d20 => refine' Fh.defAt_mk KX G ?a ?l ?c ?k Fh.K38.bd_f_law_word; (case a => k_is); (case l => k_is); (case c => k_is); (case k => k_is))
    (case d21 => refine' Fh.defAt_mk KX G ?a ?l ?c ?k Fh.K38.bd_f_law_of_word; (case a => k_is); (case l => k_is); (case c => k_is); (case k => k_is))
    (case d22 => refine' Fh.defAt_mk KX G ?a ?l ?c ?k Fh.K38.bd_f_law_pair; (case a => k_is); (case l => k_is); (case c => k_is); (case k => k_is))
    (case d23 => refine' Fh.defAt_mk KX G ?a ?l ?c ?k Fh.K38.bd_f_law_ones; (case a => k_is); (case l => k_is); (case c => k_is); (case k => k_is))
    (case d24 => refine' Fh.defAt_mk KX G ?a ?l ?c ?k Fh.K38.bd_f_law_wholes; (case a => k_is); (case l => k_is); (case c => k_is); (case k => k_is))
    (case z0 => k_is); (case z1 => k_is); (case z2 => k_is); (case z3 => k_is); (case z4 => k_is); (case z5 => k_is); (case z6 => k_is); (case z7 => k_is); (case z8 => k_is); (case z9 => k_is); (case z10 => k_is); (case z11 => k_is); (case z12 => k_is)
    (case m0 => k_is)
    (case c_0 => refine' Fh.conOk_mk ?h_1 ?r_1; (case h_1 => k_is); (case r_1 => refine' Fh.rpk_ctp (l := [1, 0, 0, 1]) ?l_2 ?s_2 ?e_2; (case l_2 => k_is); (case s_2 => rfl); (case e_2 => refine' Fh.rpk_cons ?a_3 ?b_3; (case a_3 => exact Fh.rpk_int _ _); (case b_3 => refine' Fh.rpk_cons ?a_4 ?b_4; (case a_4 => exact Fh.rpk_int _ _); (case b_4 => refine' Fh.rpk_cons ?a_5 ?b_5; (case a_5 => exact Fh.rpk_int _ _); (case b_5 => refine' Fh.rpk_cons ?a_6 ?b_6; (case a_6 => exact Fh.rpk_int _ _); (case b_6 => exact Fh.rpk_nil)))))))

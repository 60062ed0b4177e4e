import PyProof.Rows.All
import HandS.ForMost
import HandS.Walk
import HandS.Flow
import HandS.TupAny
import HandS.TupLe
import HandS.TryOnly
import HandS.WordsExc
import HandS.CallSlots
import KE.SortData
import KE.DataMinMax
import HandS.Text
import HandS.StrMore
import HandS.Replace
import HandS.Dict
import HandS.DictComp
import HandS.More
import HandS.TupMul
import HandS.IsInst
import HandS.SortInts
import PyProof.ListMulAny
import HandS.ExcOwn
import HandS.Zip
import KE.GoesEnum
import HandS.ExcInit
import HandS.ExcField
import KE.DataIsa
import HandS.SortKw
import HandS.Style
import HandS.Strs
import HandS.ReCall
import KE.KDictPairs
import HandS.TryMany
import OpenK.AllK
import Wide.FinOn
import PySem.Challenge.RW_saywright_k20_slips_by_hand
-- text RfA
section
set_option Elab.async false
set_option linter.all false
set_option maxRecDepth 100000
/-! RfA: a small language (terms E, tests T, statements S), what it reckons over plain data. -/
namespace Rf
open PySem L2

abbrev D := PyData
/-- what a slot holds: data that changes no more, or a list or a dict that this slot alone holds -/
inductive Sv where
  | dat (d : D) | lst (ds : List D) | dct (kvs : List (D × D)) | dtt (kvs : List (D × D)) | fdc (kvs : List (D × D))
abbrev En := List (Option Sv)
/-- what a term gives: data, a new list or dict, or the place of a list or dict -/
inductive Rv where
  | dat (d : D) | tl (ds : List D) | td (kvs : List (D × D)) | tt (kvs : List (D × D)) | plc (i : Nat)

inductive R (α : Type) where
  | ok (a : α) | exc (c : Nat) (p : Option D) (env : En) | no
def R.bind {α β : Type} : R α → (α → R β) → R β
  | .ok a, f => f a
  | .exc c p env, _ => .exc c p env
  | .no, _ => .no
@[simp] theorem R.bind_ok {α β : Type} (a : α) (f : α → R β) : (R.ok a).bind f = f a := rfl
@[simp] theorem R.bind_exc {α β : Type} (c : Nat) (p : Option D) (env : En) (f : α → R β) : (R.exc c p env : R α).bind f = .exc c p env := rfl
@[simp] theorem R.bind_no {α β : Type} (f : α → R β) : (R.no : R α).bind f = .no := rfl
theorem R.bind_congr {α β : Type} {x y : R α} {f : α → R β} (h : x = y) : x.bind f = y.bind f := by rw [h]
def R.opt {α : Type} : Option α → R α
  | some a => .ok a
  | none => .no
@[simp] theorem R.opt_some {α : Type} (a : α) : R.opt (some a) = .ok a := rfl
@[simp] theorem R.opt_none {α : Type} : (R.opt none : R α) = .no := rfl

/-- a call's end: its value, what the arguments hold behind it -/
inductive CR where
  | ok (s : Sv) (outs : List Sv) | exc (c : Nat) (p : Option D) (outs : List Sv) | no

/-- built-in functions -/
inductive Blt where
  | len | abs | max | min | sum | all | any | sorted | tuple | list | int | str | range | set | dict
  deriving DecidableEq
/-- methods of built-in types -/
inductive Mth where
  | append | extend | pop | remove | insert | get | items | join | split | replace | startswith | endswith | index | count
  deriving DecidableEq
inductive Ty where
  | int | bool | str | tuple | list
  deriving DecidableEq

mutual
inductive Tg where
  | nm (i : Nat) | tp (ts : Tgs)
inductive Tgs where
  | nil | cons (t : Tg) (r : Tgs)
end

mutual
inductive E where
  | var (i : Nat)
  | int (n : Int) | bl (b : Bool) | non | str (s : Str)
  | gbl (n : Nat)
  | bin (o : Operator) (a b : E)
  | neg (a : E)
  | not (a : E)
  | cmp (o : CmpOp) (a b : E)
  | chn (o p : CmpOp) (a b c : E)
  | and (es : Es) | or (es : Es)
  | ite (c : T) (a b : E)
  | tup (es : Es) | lst (es : Es)
  | idx (a i : E)
  | slc (a : E) (lo hi : Oe)
  | app (f : Nat) (es : Es)
  | blt (b : Blt) (es : Es)
  | mut (m : Mth) (i : Nat) (es : Es)
  | mth (m : Mth) (o : E) (es : Es)
  | isi (a : E) (t : Ty)
  | cpr (e : E) (t : Tg) (it : Itr) (c : Ot) (own : List Nat)
  | dnew
  | dcp (k v : E) (t : Tg) (it : Itr) (c : Ot) (own : List Nat)
  | dget (i : Nat) (k x : E)
  | cp2 (e : E) (t : Tg) (it : Itr) (c : Ot) (t1 : Tg) (it1 : Itr) (c1 : Ot) (own own1 : List Nat)
  | any
  | gix (n : Nat) (k : E)
  | rev (a : E)
  | dsp (es : Es)
  | mmd (b : Blt) (a x : E)
  | tnew
  | tin (ng : Bool) (k : E) (i : Nat)
  | tix (i : Nat) (k : E)
  | tget (i : Nat) (k x : E)
  | pop (i : Nat)
  | tmi (o a : E)
  | dct (a : E)
  | dgx (d k x : E)
inductive Es where
  | nil | cons (e : E) (r : Es)
inductive Oe where
  | no | yes (e : E)
inductive Itr where
  | seq (e : E) | rng (es : Es) | enu (e : E) | zip (a b : E) | zpm (a b : E) | kys (i : Nat)
inductive T where
  | val (e : E) | and (ts : Ts) | or (ts : Ts) | not (t : T) | any
inductive Ts where
  | one (t : T) | cons (t : T) (r : Ts)
inductive Ot where
  | no | yes (t : T)
end

mutual
inductive S where
  | pass | doc (s : Str)
  | asg (t : Tg) (e : E)
  | set (x : E) (i : E) (v : E)
  | aug (i : Nat) (o : Operator) (e : E)
  | par (is : List Nat) (es : Es)
  | exp (e : E)
  | ret (e : E) | retN
  | ite (c : T) (a b : Ss)
  | whl (c : T) (b : Ss)
  | for (t : Tg) (it : Itr) (b : Ss)
  | brk | cnt
  | rse (c : Nat) (es : Es)
  | rai (c : Nat)
  | rap (c : Nat) (e : E)
  | tra (b : Ss) (c n i : Nat) (v : Option Str)
  | tri (b : Ss) (hs : List (Nat × Nat × D))
  | as2 (i j : Nat) (e : E)
  | sls (x lo hi v : E)
inductive Ss where
  | nil | cons (s : S) (r : Ss)
end

mutual
def tgs : Tg → List Nat
  | .nm i => [i]
  | .tp ts => tgss ts
def tgss : Tgs → List Nat
  | .nil => []
  | .cons t r => tgs t ++ tgss r
end

/-! ### data -/
def Sv.view : Sv → D
  | .dat d => d
  | .lst ds => .list ds
  | .dct kvs => .dict kvs
  | .dtt kvs => .dict kvs
  | .fdc kvs => .dict kvs
def slot : En → Nat → Option Sv
  | [], _ => none
  | x :: _, 0 => x
  | _ :: r, i + 1 => slot r i
def vw (env : En) : Rv → Option D
  | .dat d => some d
  | .tl ds => some (.list ds)
  | .td kvs => some (.dict kvs)
  | .tt _ => none
  | .plc i => match slot env i with
    | some (.dtt _) => none
    | some (.fdc _) => none
    | some s => some s.view
    | none => none
/-- it changes no more from here on -/
def frz (env : En) : Rv → Option (D × En)
  | .dat d => some (d, env)
  | .tl ds => some (.list ds, env)
  | .td _ => none
  | .tt _ => none
  | .plc i => match slot env i with
    | some (.dat d) => some (d, env)
    | some (.lst ds) => some (.list ds, env.set i (some (.dat (.list ds))))
    | _ => none

def truD : D → Bool
  | .none => false
  | .bool b => b
  | .int i => i != 0
  | .str x => x.length != 0
  | .list xs => !xs.isEmpty
  | .tuple xs => !xs.isEmpty
  | .dict kvs => !kvs.isEmpty

def isDct : D → Bool
  | .dict _ => true
  | _ => false
/-- what may be a key -/
def keyOf : D → Option Key
  | .int i => some (.inl i)
  | .str z => some (.inr z)
  | _ => none
def dVal (kvs : List (D × D)) (q : Key) : Option D := (kvs.find? fun kv => decide (keyOf kv.1 = some q)).map (·.2)
def dPut (kvs : List (D × D)) (dk : D) (q : Key) (dv : D) : List (D × D) :=
  if kvs.any fun kv => decide (keyOf kv.1 = some q) then kvs.map fun kv => if keyOf kv.1 = some q then (kv.1, dv) else kv else kvs ++ [(dk, dv)]
/-- dicts whose keys are tuples of numbers and texts -/
def keysOf : List D → Option (List Key)
  | [] => some []
  | d :: r => (keyOf d).bind fun k => (keysOf r).map (k :: ·)
/-- tuples written at the top: no keys -/
def statB : List D → Bool
  | [.str a, .str b, .str c] => decide (a = ⟨#[44]⟩) && decide (b = ⟨#[46]⟩) && decide (c = ⟨#[63]⟩)
  | [.int a, .int b] => (decide (a = 90) && decide (b = 130)) || (decide (a = 110) && decide (b = 100)) || (decide (a = 120) && decide (b = 80))
  | _ => false
/-- whether tuples of numbers and texts may be keys in this law -/
def tkeysB : Bool := true
/-- whether the empty tuple may be a key in this law -/
def tkeyE : Bool := false
/-- a tuple that is known whole -/
def cleanB (ds : List D) : Bool := !tkeysB || ((ds.isEmpty && !tkeyE) || (keysOf ds).isNone)
def keyT : D → Option (List Key)
  | .tuple ds => if statB ds || cleanB ds then none else keysOf ds
  | _ => none
def dValT (kvs : List (D × D)) (q : List Key) : Option D := (kvs.find? fun kv => decide (keyT kv.1 = some q)).map (·.2)
def dPutT (kvs : List (D × D)) (dk : D) (q : List Key) (dv : D) : List (D × D) :=
  if kvs.any fun kv => decide (keyT kv.1 = some q) then kvs.map fun kv => if keyT kv.1 = some q then (kv.1, dv) else kv else kvs ++ [(dk, dv)]
/-- the depth at which two data may be compared -/
def depL : Nat := 120
def eqOk (a b : D) : Bool := decide (min a.depth b.depth ≤ depL) && (!isDct a && !isDct b)
mutual
def noDict : D → Bool
  | .none | .bool _ | .int _ | .str _ => true
  | .list xs | .tuple xs => noDicts xs
  | .dict _ => false
def noDicts : List D → Bool
  | [] => true
  | x :: xs => noDict x && noDicts xs
end

def sizeOk (n : Nat) : Bool := decide (n ≤ 16777216)

def mulOk (i j : Int) : Bool := (decide (-(2 ^ 64) < i) && decide (i < 2 ^ 64)) || (decide (-(2 ^ 64) < j) && decide (j < 2 ^ 64))

def binD : Operator → D → D → Option Rv
  | .Add, .int i, .int j => some (.dat (.int (i + j)))
  | .Add, .str x, .str y => if sizeOk (x.length + y.length) then some (.dat (.str (x ++ y))) else none
  | .Add, .tuple xs, .tuple ys => if sizeOk (xs.length + ys.length) then some (.dat (.tuple (xs ++ ys))) else none
  | .Add, .list xs, .list ys => if sizeOk (xs.length + ys.length) then some (.tl (xs ++ ys)) else none
  | .Sub, .int i, .int j => some (.dat (.int (i - j)))
  | .Mult, .int i, .int j => if mulOk i j then some (.dat (.int (i * j))) else none
  | .Mult, .tuple xs, .int k => if (decide (1 ≤ k) && decide (k ≤ 1000)) && decide (xs.length ≤ 1000) then some (.dat (.tuple (List.replicate k.toNat xs).flatten)) else none
  | .Mult, .list xs, .int k => if (decide (0 ≤ k) && decide (k ≤ 1000)) && decide (xs.length ≤ 1000) then some (.tl (List.replicate k.toNat xs).flatten) else none
  | .Mult, .str z, .int k => if (decide (0 ≤ k) && decide (k ≤ 1000)) && decide (z.length ≤ 1000) then some (.dat (.str (Txt.mul z k))) else none
  | .FloorDiv, .int i, .int j => if decide (0 < j) && decide (j < 1073741824) then some (.dat (.int (i / j))) else none
  | .Mod, .int i, .int j => if decide (0 < j) then some (.dat (.int (i % j))) else none
  | _, _, _ => none

def ltCps (x y : Str) : Bool := decide (x.cps.toList < y.cps.toList)

def memD (x : D) (ys : List D) : Option Bool := if decide (min (PyData.depthAll ys) x.depth ≤ depL) && !isDct x then some (ys.any fun y => PyData.eqv y x) else none

def isN : D → Bool
  | .none => true
  | _ => false

/-- x stands in z -/
def inS (z x : Str) : Bool := !(Builtin.Str.occurrences z x 0 z.length 1).isEmpty
def cmpD : CmpOp → D → D → Option Bool
  | .Eq, x, y => if eqOk x y then some (PyData.eqv x y) else none
  | .NotEq, x, y => if eqOk x y then some (!PyData.eqv x y) else none
  | .Lt, .int i, .int j => some (decide (i < j))
  | .LtE, .int i, .int j => some (decide (i ≤ j))
  | .Gt, .int i, .int j => some (decide (j < i))
  | .GtE, .int i, .int j => some (decide (j ≤ i))
  | .Lt, .str x, .str y => some (ltCps x y)
  | .LtE, .str x, .str y => some (!ltCps y x)
  | .Lt, .tuple xs, .tuple ys => if PySem.W.alike (.tuple xs) (.tuple ys) && decide (min (PyData.tuple xs).depth (PyData.tuple ys).depth ≤ depL) then some (PySem.W.dataLt (.tuple xs) (.tuple ys)) else none
  | .In, .str x, .str z => some (inS z x)
  | .NotIn, .str x, .str z => some (!inS z x)
  | .In, x, .dict kvs => (keyOf x).map fun q => (dVal kvs q).isSome
  | .NotIn, x, .dict kvs => (keyOf x).map fun q => !(dVal kvs q).isSome
  | .In, x, .list ys => memD x ys
  | .In, x, .tuple ys => memD x ys
  | .NotIn, x, .list ys => (memD x ys).map (!·)
  | .NotIn, x, .tuple ys => (memD x ys).map (!·)
  | .Is, x, .none => some (isN x)
  | .IsNot, x, .none => some (!isN x)
  | _, _, _ => none

def idxD : D → D → Option D
  | .list xs, .int i => atI xs i
  | .tuple xs, .int i => atI xs i
  | .str z, .int i => (atI z.cps.toList i).map fun c => .str ⟨#[c]⟩
  | .dict kvs, k => (keyOf k).bind fun q => dVal kvs q
  | _, _ => none

def cutL {α : Type} (xs : List α) (lo hi : Option Int) : List α := (xs.drop (HT.sIx xs.length 0 lo)).take (HT.sIx xs.length xs.length hi - HT.sIx xs.length 0 lo)

def slcD : D → Option Int → Option Int → Option Rv
  | .list xs, lo, hi => some (.tl (cutL xs lo hi))
  | .tuple xs, lo, hi => some (.dat (.tuple (cutL xs lo hi)))
  | .str z, lo, hi => some (.dat (.str (cutS z lo hi)))
  | _, _, _ => none

def intsOf : List D → Option (List Int)
  | [] => some []
  | .int i :: r => (intsOf r).map (i :: ·)
  | _ :: _ => none
def boolsOf : List D → Option (List Bool)
  | [] => some []
  | .bool b :: r => (boolsOf r).map (b :: ·)
  | _ :: _ => none

def maxI : Int → List Int → Int
  | m, [] => m
  | m, x :: r => maxI (if x > m then x else m) r
def minI : Int → List Int → Int
  | m, [] => m
  | m, x :: r => minI (if x < m then x else m) r

/-- the items of a list or tuple -/
def itemsD : D → Option (List D)
  | .list xs => some xs
  | .tuple xs => some xs
  | _ => none

/-- these data can be compared with one another -/
def alikeB (xs : List D) : Bool := xs.all fun x => xs.all fun y => PySem.W.alike x y
def tupOk : D → Bool
  | .tuple (_ :: _) => true
  | _ => false
def othOk : D → Bool
  | .none => false
  | .tuple _ => false
  | _ => true
def sortOk (xs : List D) : Bool := alikeB xs && (xs.all tupOk || xs.all othOk) && decide (PyData.depthAll xs ≤ 100) && sizeOk xs.length
def bestOk (xs : List D) : Bool := alikeB xs && xs.all (fun d => !isN d) && decide (PyData.depthAll xs ≤ 100)

def insB {α : Type} (le : α → α → Bool) (x : α) : List α → List α
  | [] => [x]
  | y :: r => if le x y then x :: y :: r else y :: insB le x r
def srtB {α : Type} (le : α → α → Bool) : List α → List α
  | [] => []
  | x :: r => insB le x (srtB le r)
def sortD (xs : List D) : List D := srtB (PySem.W.dataLe false id) xs
theorem insB_mid {α : Type} {le : α → α → Bool} (a : α) : ∀ (l1 l2 : List α), (∀ b ∈ l1, (!le a b) = true) → (∀ b ∈ l2, le a b = true) → insB le a (l1 ++ l2) = l1 ++ a :: l2
  | [], [], _, _ => rfl
  | [], y :: r, _, h => by
    show (if le a y then a :: y :: r else y :: insB le a r) = _
    rw [if_pos (h y (by simp))]; rfl
  | x :: l1, l2, h1, h2 => by
    show (if le a x then _ else x :: insB le a (l1 ++ l2)) = _
    have := h1 x (by simp)
    rw [if_neg (by simpa using this), insB_mid a l1 l2 (fun b hb => h1 b (by simp [hb])) h2]; rfl
theorem srtB_ms {α : Type} {le : α → α → Bool} (h : PySem.W.TotalLe le) : ∀ l : List α, srtB le l = l.mergeSort le
  | [] => by simp [srtB]
  | a :: l => by
    obtain ⟨l1, l2, e1, e2, e3⟩ := List.mergeSort_cons (le := le) (fun a b c => h.trans a b c) (fun a b => by simpa using h.total a b) a l
    have hp := PySem.W.sort_pairwise h (a :: l)
    rw [e1] at hp ⊢
    show insB le a (srtB le l) = _
    rw [srtB_ms h l, e2]
    refine insB_mid a l1 l2 (fun b hb => e3 b hb) fun b hb => ?_
    rw [List.pairwise_append] at hp
    exact (List.pairwise_cons.mp hp.2.1).1 b hb
theorem sortD_ms (xs : List D) : sortD xs = xs.mergeSort (PySem.W.dataLe false id) := srtB_ms (PySem.W.sortLe_total _ _ _) xs
def strsOf : List D → Option (List Str)
  | [] => some []
  | .str z :: r => (strsOf r).map (z :: ·)
  | _ :: _ => none
/-- pairs of a dict -/
def pairsOf : List D → Option (List (D × D))
  | [] => some []
  | .tuple [k, v] :: r => (pairsOf r).map ((k, v) :: ·)
  | _ :: _ => none
def putAll : List (D × D) → List (D × D) → Option (List (D × D))
  | acc, [] => some acc
  | acc, (k, v) :: r => (keyOf k).bind fun q => putAll (dPut acc k q v) r
/-- dict() of pairs -/
def dctD : D → Option (List (D × D))
  | .tuple ds => if (cleanB ds && !statB ds) && sizeOk ds.length then (pairsOf ds).bind (putAll []) else none
  | .list ds => if sizeOk ds.length then (pairsOf ds).bind (putAll []) else none
  | _ => none
/-- a text of digits and the number that it tells -/
def digB (cs : List Nat) : Bool := !cs.isEmpty && decide (cs.length ≤ 600) && cs.all fun c => decide (48 ≤ c) && decide (c ≤ 57)
def digV (cs : List Nat) : Nat := cs.foldl (fun acc c => acc * 10 + (c - 48)) 0
def bltD : Blt → List D → Option Rv
  | .len, [.list xs] => some (.dat (.int xs.length))
  | .len, [.tuple xs] => some (.dat (.int xs.length))
  | .len, [.str x] => some (.dat (.int x.length))
  | .len, [.dict kvs] => some (.dat (.int kvs.length))
  | .abs, [.int i] => some (.dat (.int (if i < 0 then -i else i)))
  | .max, [.list xs] => match intsOf xs with
    | some (n :: ns) => some (.dat (.int (maxI n ns)))
    | _ => match xs with
      | x :: r => if bestOk (x :: r) then some (.dat (PySem.W.maxD x r)) else none
      | [] => none
  | .min, [.list xs] => match xs with
    | x :: r => if bestOk (x :: r) then some (.dat (PySem.W.minD x r)) else none
    | [] => none
  | .sorted, [.dict kvs] => match intsOf (kvs.map (·.1)) with
    | some ns => if decide (ns.length < 64) then some (.tl ((srtB (fun a b => decide (a ≤ b)) ns).map .int)) else none
    | none => match strsOf (kvs.map (·.1)) with
      | some zs => if decide (zs.length < 64) then some (.tl ((srtB (fun a b => !ltCps b a) zs).map .str)) else none
      | none => none
  | .max, [.dict kvs] => match intsOf (kvs.map (·.1)) with
    | some (n :: ns) => some (.dat (.int (maxI n ns)))
    | _ => none
  | .sorted, [.list xs] => if sortOk xs then some (.tl (sortD xs)) else none
  | .max, [.int i, .int j] => some (.dat (.int (if j > i then j else i)))
  | .min, [.int i, .int j] => some (.dat (.int (if j < i then j else i)))
  | .min, [.int i, .int j, .int k] => some (.dat (.int (if j < i then (if k < j then k else j) else if k < i then k else i)))
  | .sum, [.list xs] => (intsOf xs).map fun ns => .dat (.int ns.sum)
  | .sum, [.tuple xs] => (intsOf xs).map fun ns => .dat (.int ns.sum)
  | .all, [.list xs] => (boolsOf xs).map fun bs => .dat (.bool (bs.all id))
  | .any, [.list xs] => (boolsOf xs).map fun bs => .dat (.bool (bs.any id))
  | .tuple, [.list xs] => some (.dat (.tuple xs))
  | .tuple, [.tuple xs] => some (.dat (.tuple xs))
  | .tuple, [.str z] => some (.dat (.tuple (z.cps.toList.map fun c => .str ⟨#[c]⟩)))
  | .list, [.list xs] => some (.tl xs)
  | .list, [.tuple xs] => some (.tl xs)
  | .list, [.str z] => some (.tl (z.cps.toList.map fun c => .str ⟨#[c]⟩))
  | .int, [.int i] => some (.dat (.int i))
  | .int, [.bool b] => some (.dat (.int (if b then 1 else 0)))
  | .int, [.str z] => if digB z.cps.toList then some (.dat (.int (digV z.cps.toList : Nat))) else none
  | _, _ => none

/-- where a text stands first in a tuple of texts -/
def tmiD : D → D → Option Nat
  | .tuple ds, .str z => (strsOf ds).bind fun zs => zs.findIdx? fun y => decide (y = z)
  | _, _ => none
def tmiB : D → Bool
  | .tuple ds => cleanB ds && !statB ds
  | _ => false
/-- a text that the model bears -/
def strR (x : Str) : Option Rv := if sizeOk x.length && PyData.strOk x then some (.dat (.str x)) else none
def joinR (a : Str) (xs : List D) : Option Rv := (strsOf xs).bind fun zs => if sizeOk ((zs.map (·.length)).sum + zs.length * a.length) then strR (Txt.join a zs) else none
/-- methods of a text -/
def mthD : Mth → Str → List D → Option Rv
  | .startswith, a, [.str b] => some (.dat (.bool (Txt.startswith a b)))
  | .endswith, a, [.str b] => some (.dat (.bool (Txt.endswith a b)))
  | .index, a, [.str b] => (Txt.index0 a b).map fun k => .dat (.int (k : Nat))
  | .join, a, [.list xs] => joinR a xs
  | .join, a, [.tuple xs] => joinR a xs
  | .split, a, [.str b] => if (b.length != 0 && sizeOk (a.length + 2)) && (Txt.split a b).all fun z => sizeOk z.length && PyData.strOk z then some (.tl ((Txt.split a b).map .str)) else none
  | _, _, _ => none

/-- methods that change the list or dict at a place; what comes back, what stands there -/
def mthW : Mth → Sv → List D → Option (D × Sv)
  | .append, .lst xs, [x] => if sizeOk (xs.length + 1) then some (.none, .lst (xs ++ [x])) else none
  | .extend, .lst xs, [.list ys] => if sizeOk (xs.length + ys.length) then some (.none, .lst (xs ++ ys)) else none
  | _, _, _ => none

def setW : Sv → D → D → Option Sv
  | .lst xs, .int i, v => (ixN xs.length i).map fun j => .lst (xs.set j v)
  | .dct kvs, k, v => (keyOf k).bind fun q => if sizeOk (kvs.length + 1) then some (.dct (dPut kvs k q v)) else none
  | .dtt kvs, k, v => (keyT k).bind fun q => if sizeOk (kvs.length + 1) then some (.dtt (dPutT kvs k q v)) else none
  | _, _, _ => none

/-- xs[a:c] = ys -/
def slsW : Sv → Int → Int → D → Option Sv
  | .lst xs, a, c, .list ys => if (decide (0 ≤ a) && decide (a ≤ c)) && (decide (c ≤ xs.length) && sizeOk (xs.length + ys.length)) then some (.lst (xs.take a.toNat ++ ys ++ xs.drop c.toNat)) else none
  | _, _, _, _ => none
def intD : D → Option Int
  | .int i => some i
  | _ => none

def isT : Ty → D → Bool
  | .int, .int _ => true
  | .int, .bool _ => true
  | .bool, .bool _ => true
  | .str, .str _ => true
  | .tuple, .tuple _ => true
  | .list, .list _ => true
  | _, _ => false

def rngD : List D → Option (List D)
  | [.int i, .int j, .int (-1)] => if decide (-(2 ^ 62) ≤ i) && decide (i < 2 ^ 62) && decide (-(2 ^ 62) ≤ j) && decide (j < 2 ^ 62) && decide (i - j ≤ 16777216) then some ((List.range (i - j).toNat).map fun k : Nat => .int (i + (k : Int) * (-1))) else none
  | [.int j] => if decide (-(2 ^ 62) ≤ j) && decide (j ≤ 16777216) then some ((List.range j.toNat).map fun i : Nat => .int (0 + (i : Int))) else none
  | [.int i, .int j] => if decide (-(2 ^ 62) ≤ i) && decide (i < 2 ^ 62) && decide (-(2 ^ 62) ≤ j) && decide (j < 2 ^ 62) && decide (j - i ≤ 16777216) then some ((List.range (j - i).toNat).map fun k : Nat => .int (i + (k : Int))) else none
  | _ => none

def enuD (xs : List D) : List D := List.zipWith (fun (i : Nat) x => .tuple [.int (i : Int), x]) (List.range xs.length) xs
def zipD (xs ys : List D) : List D := List.zipWith (fun x y => .tuple [x, y]) xs ys

def pairUp : List D → Option (List (D × D))
  | [] => some []
  | k :: v :: r => (pairUp r).map ((k, v) :: ·)
  | _ => none
def isLD : D → Bool
  | .list _ => true
  | .dict _ => true
  | _ => false
/-- max, min with a default -/
def mmdD : Blt → D → D → Option D
  | .max, .list [], x => if isLD x then none else some x
  | .min, .list [], x => if isLD x then none else some x
  | .max, .list (y :: r), _ => if bestOk (y :: r) then some (PySem.W.maxD y r) else none
  | .min, .list (y :: r), _ => if bestOk (y :: r) then some (PySem.W.minD y r) else none
  | _, _, _ => none
/-- the machine around a body: the calls, the places that hold what the caller holds, constants, turns of a while -/
structure Mach where
  call : Nat → List Sv → CR
  pin : List Nat
  gl : Nat → Option D
  fuel : Nat

def store (M : Mach) (env : En) (i : Nat) (s : Sv) : Option En :=
  if M.pin.contains i then none else if i < env.length then some (env.set i (some s)) else none

mutual
def asgD (M : Mach) : Tg → D → En → Option En
  | .nm i, d, env => store M env i (.dat d)
  | .tp ts, .tuple xs, env => asgDs M ts xs env
  | .tp _, _, _ => none
def asgDs (M : Mach) : Tgs → List D → En → Option En
  | .nil, [], env => some env
  | .cons t r, x :: xs, env => (asgD M t x env).bind fun e1 => asgDs M r xs e1
  | _, _, _ => none
end

/-- what an argument hands over -/
def argS (env : En) : Rv → Option Sv
  | .dat d => some (.dat d)
  | .tl ds => some (.dat (.list ds))
  | .td _ => none
  | .tt _ => none
  | .plc i => slot env i
def argsS (env : En) : List Rv → Option (List Sv)
  | [] => some []
  | r :: rs => (argS env r).bind fun s => (argsS env rs).map (s :: ·)
def places : List Rv → List Nat
  | [] => []
  | .plc i :: rs => i :: places rs
  | _ :: rs => places rs
def backS : List Rv → List Sv → En → En
  | .plc i :: rs, s :: ss, env => backS rs ss (env.set i (some s))
  | _ :: rs, _ :: ss, env => backS rs ss env
  | _, _, env => env
def nodupB : List Nat → Bool
  | [] => true
  | x :: r => !r.contains x && nodupB r
/-- a place that holds data is data -/
def norm (env : En) : Rv → Rv
  | .plc i => match slot env i with
    | some (.dat d) => .dat d
    | _ => .plc i
  | r => r
def callN (M : Mach) (f : Nat) (rs : List Rv) (env : En) : R (Rv × En) :=
  if nodupB (places rs) then
    match argsS env rs with
    | none => .no
    | some ss => match M.call f ss with
      | .ok (.dat d) outs => .ok (.dat d, backS rs outs env)
      | .ok (.lst ds) outs => .ok (.tl ds, backS rs outs env)
      | .ok (.dct ds) outs => .ok (.td ds, backS rs outs env)
      | .ok (.dtt ds) outs => .ok (.tt ds, backS rs outs env)
      | .ok (.fdc _) _ => .no
      | .exc c p outs => .exc c p (backS rs outs env)
      | .no => .no
  else .no
def callR (M : Mach) (f : Nat) (rs : List Rv) (env : En) : R (Rv × En) := callN M f (rs.map (norm env)) env

def views (env : En) : List Rv → Option (List D)
  | [] => some []
  | r :: rs => (vw env r).bind fun d => (views env rs).map (d :: ·)

/-- the slots of a comprehension's own names, as they were -/
def wipeE (env : En) : List Nat → En
  | [] => env
  | v :: vs => (wipeE env vs).set v none
def backE (env env0 : En) : List Nat → En
  | [] => env
  | v :: vs => (backE env env0 vs).set v (env0[v]?.getD none)

def R.lc : R (Option D × En) → (Option D → En → R (List D × En)) → R (List D × En)
  | .ok x, k => k x.1 x.2
  | _, _ => .no
@[simp] theorem R.lc_ok (o : Option D) (e : En) (k : Option D → En → R (List D × En)) : (R.ok (o, e)).lc k = k o e := rfl
@[simp] theorem R.lc_no (k : Option D → En → R (List D × En)) : R.no.lc k = .no := rfl
theorem R.lc_congr {x y : R (Option D × En)} {k : Option D → En → R (List D × En)} (h : x = y) : x.lc k = y.lc k := by rw [h]
def loopC (f : D → En → R (Option D × En)) : List D → List D → En → R (List D × En)
  | [], acc, env => .ok (acc, env)
  | x :: xs, acc, env => (f x env).lc fun o e1 => match o with
    | some d => if sizeOk (acc.length + 1) then loopC f xs (acc ++ [d]) e1 else .no
    | none => loopC f xs acc e1

def R.la : R (List D × En) → (List D → En → R (List D × En)) → R (List D × En)
  | .ok x, k => k x.1 x.2
  | _, _ => .no
@[simp] theorem R.la_ok (o : List D) (e : En) (k : List D → En → R (List D × En)) : (R.ok (o, e)).la k = k o e := rfl
@[simp] theorem R.la_no (k : List D → En → R (List D × En)) : R.no.la k = .no := rfl
theorem R.la_congr {x y : R (List D × En)} {k : List D → En → R (List D × En)} (h : x = y) : x.la k = y.la k := by rw [h]
def loopA (f : D → List D → En → R (List D × En)) : List D → List D → En → R (List D × En)
  | [], acc, env => .ok (acc, env)
  | x :: xs, acc, env => (f x acc env).la fun a e1 => loopA f xs a e1

def R.ld : R (List (D × D) × En) → (List (D × D) → En → R (List (D × D) × En)) → R (List (D × D) × En)
  | .ok x, k => k x.1 x.2
  | _, _ => .no
@[simp] theorem R.ld_ok (o : List (D × D)) (e : En) (k : List (D × D) → En → R (List (D × D) × En)) : (R.ok (o, e)).ld k = k o e := rfl
@[simp] theorem R.ld_no (k : List (D × D) → En → R (List (D × D) × En)) : R.no.ld k = .no := rfl
def loopD (f : D → List (D × D) → En → R (List (D × D) × En)) : List D → List (D × D) → En → R (List (D × D) × En)
  | [], acc, env => .ok (acc, env)
  | x :: xs, acc, env => (f x acc env).ld fun a e1 => loopD f xs a e1

mutual
def evE (M : Mach) : E → En → R (Rv × En)
  | .var i, env => match slot env i with
    | some (.dat d) => .ok (.dat d, env)
    | some _ => .ok (.plc i, env)
    | none => .no
  | .int n, env => .ok (.dat (.int n), env)
  | .bl b, env => .ok (.dat (.bool b), env)
  | .non, env => .ok (.dat .none, env)
  | .str s, env => .ok (.dat (.str s), env)
  | .gbl n, env => (R.opt (M.gl n)).bind fun d => if isDct d then .no else .ok (.dat d, env)
  | .bin o a b, env => (evE M a env).bind fun (ra, e1) => (evE M b e1).bind fun (rb, e2) =>
      (R.opt (vw e2 ra)).bind fun x => (R.opt (vw e2 rb)).bind fun y => (R.opt (binD o x y)).bind fun r => .ok (r, e2)
  | .neg a, env => (evE M a env).bind fun (ra, e1) => match vw e1 ra with
      | some (.int i) => .ok (.dat (.int (-i)), e1)
      | _ => .no
  | .not a, env => (evE M a env).bind fun (ra, e1) => (R.opt (vw e1 ra)).bind fun x => .ok (.dat (.bool (!truD x)), e1)
  | .cmp o a b, env => (evE M a env).bind fun (ra, e1) => (evE M b e1).bind fun (rb, e2) =>
      (R.opt (vw e2 ra)).bind fun x => (R.opt (vw e2 rb)).bind fun y => (R.opt (cmpD o x y)).bind fun k => .ok (.dat (.bool k), e2)
  | .chn o p a b c, env => (evE M a env).bind fun (ra, e1) => (evE M b e1).bind fun (rb, e2) =>
      (R.opt (vw e2 ra)).bind fun x => (R.opt (vw e2 rb)).bind fun y => (R.opt (cmpD o x y)).bind fun k =>
        if k then (evE M c e2).bind fun (rc, e3) => (R.opt (vw e3 rb)).bind fun y2 => (R.opt (vw e3 rc)).bind fun z => (R.opt (cmpD p y2 z)).bind fun k2 => .ok (.dat (.bool k2), e3)
        else .ok (.dat (.bool false), e2)
  | .and es, env => evAnd M es env
  | .or es, env => evOr M es env
  | .ite c a b, env => (evT M c env).bind fun (k, e1) => if k then evE M a e1 else evE M b e1
  | .tup es, env => (evDs M es env).bind fun (ds, e1) => if sizeOk ds.length then .ok (.dat (.tuple ds), e1) else .no
  | .lst es, env => (evDs M es env).bind fun (ds, e1) => if sizeOk ds.length then .ok (.tl ds, e1) else .no
  | .idx a i, env => (evE M a env).bind fun (ra, e1) => (evE M i e1).bind fun (ri, e2) =>
      (R.opt (vw e2 ra)).bind fun x => (R.opt (vw e2 ri)).bind fun y => (R.opt (idxD x y)).bind fun d => .ok (.dat d, e2)
  | .slc a lo hi, env => (evE M a env).bind fun (ra, e1) => (evO M lo e1).bind fun (l, e2) => (evO M hi e2).bind fun (h, e3) =>
      (R.opt (vw e3 ra)).bind fun x => (R.opt (slcD x l h)).bind fun r => .ok (r, e3)
  | .app f es, env => (evA M es env).bind fun (rs, e1) => callR M f rs e1
  | .blt b es, env => (evA M es env).bind fun (rs, e1) => (R.opt (views e1 rs)).bind fun ds => (R.opt (bltD b ds)).bind fun r => .ok (r, e1)
  | .mut m i es, env => match slot env i with
    | some (.lst _) => (evDs M es env).bind fun (ds, e1) => match slot e1 i with
      | some s => (R.opt (mthW m s ds)).bind fun (d, s') => .ok (.dat d, e1.set i (some s'))
      | none => .no
    | _ => .no
  | .mth m o es, env => (evE M o env).bind fun (ro, e1) => match vw e1 ro with
    | some (.str a) => (evA M es e1).bind fun (rs, e2) => (R.opt (views e2 rs)).bind fun ds => (R.opt (mthD m a ds)).bind fun r => .ok (r, e2)
    | _ => .no
  | .isi a t, env => (evE M a env).bind fun (ra, e1) => (R.opt (vw e1 ra)).bind fun x => if isDct x then .no else .ok (.dat (.bool (isT t x)), e1)
  | .cpr e t it c own, env => (evI M it env).bind fun (xs, e1) =>
      (loopC (fun x env => (R.opt (asgD M t x (wipeE env own))).bind fun e2 => (evOt M c e2).bind fun (k, e3) =>
          if k then (evE M e e3).bind fun (r, e4) => (R.opt (frz e4 r)).bind fun (d, e5) => .ok (some d, e5) else .ok (none, e3)) xs [] (wipeE e1 own)).bind fun (acc, e6) => .ok (.tl acc, backE e6 e1 own)
  | .dnew, env => .ok (.td [], env)
  | .dcp k v t it c own, env => (evI M it env).bind fun (xs, e1) =>
      (loopD (fun x acc env => (R.opt (asgD M t x (wipeE env own))).bind fun e2 => (evOt M c e2).bind fun (b, e3) =>
          if b then (evE M k e3).bind fun (rk, e4) => (R.opt (frz e4 rk)).bind fun (dk, e5) => (evE M v e5).bind fun (rv, e6) => (R.opt (frz e6 rv)).bind fun (dv, e7) => (R.opt (keyOf dk)).bind fun q => if sizeOk (acc.length + 1) then .ok (dPut acc dk q dv, e7) else .no
          else .ok (acc, e3)) xs [] (wipeE e1 own)).bind fun (acc, e6) => .ok (.td acc, backE e6 e1 own)
  | .dget i k x, env => match slot env i with
    | some (.dct _) => (evE M k env).bind fun (rk, e1) => (R.opt (frz e1 rk)).bind fun (dk, e2) => (evE M x e2).bind fun (rx, e3) => (R.opt (frz e3 rx)).bind fun (dx, e4) => (match slot e4 i with
      | some (.dct kvs) => (R.opt (keyOf dk)).bind fun q => .ok (.dat ((dVal kvs q).getD dx), e4)
      | _ => .no)
    | _ => .no
  | .cp2 e t it c t1 it1 c1 own own1, env => (evI M it env).bind fun (xs, e1) =>
      (loopA (fun x acc env => (R.opt (asgD M t x (wipeE env own))).bind fun e2 => (evOt M c e2).bind fun (k, e3) =>
          if k then (evI M it1 e3).bind fun (ys, e4) => loopC (fun x env => (R.opt (asgD M t1 x (wipeE env own1))).bind fun e2 => (evOt M c1 e2).bind fun (k, e3) =>
          if k then (evE M e e3).bind fun (r, e4) => (R.opt (frz e4 r)).bind fun (d, e5) => .ok (some d, e5) else .ok (none, e3)) ys acc (wipeE e4 own1)
          else .ok (acc, e3)) xs [] (wipeE e1 own)).bind fun (acc, e6) => .ok (.tl acc, backE e6 e1 own)
  | .any, _ => .no
  | .gix n k, env => match M.gl n with
    | some (.dict kvs) => (evE M k env).bind fun (rk, e1) => (match vw e1 rk with
      | some (.str z) => (R.opt (dVal kvs (.inr z))).bind fun d => .ok (.dat d, e1)
      | _ => .no)
    | _ => .no
  | .rev a, env => (evE M a env).bind fun (ra, e1) => match vw e1 ra with
    | some (.list xs) => .ok (.tl xs.reverse, e1)
    | _ => .no
  | .dsp es, env => (evDs M es env).bind fun (ds, e1) => (R.opt (pairUp ds)).bind fun ps => if decide (ps.length ≤ 15) then (R.opt (putAll [] ps)).bind fun kvs => .ok (.td kvs, e1) else .no
  | .mmd b a x, env => (evE M a env).bind fun (ra, e1) => (evE M x e1).bind fun (rx, e2) => (R.opt (vw e2 ra)).bind fun d => (R.opt (vw e2 rx)).bind fun dx => (R.opt (mmdD b d dx)).bind fun r => .ok (.dat r, e2)
  | .tnew, env => .ok (.tt [], env)
  | .pop i, env => match slot env i with
    | some (.lst xs) => (match xs.getLast? with
      | some d => .ok (.dat d, env.set i (some (.lst xs.dropLast)))
      | none => .no)
    | _ => .no
  | .tin ng k i, env => (evE M k env).bind fun (rk, e1) => (R.opt (frz e1 rk)).bind fun (dk, e2) => (match slot e2 i with
    | some (.dtt kvs) => (R.opt (keyT dk)).bind fun q => .ok (.dat (.bool (ng != (dValT kvs q).isSome)), e2)
    | _ => .no)
  | .tix i k, env => match slot env i with
    | some (.dtt _) => (evE M k env).bind fun (rk, e1) => (R.opt (frz e1 rk)).bind fun (dk, e2) => (match slot e2 i with
      | some (.dtt kvs) => (R.opt (keyT dk)).bind fun q => (R.opt (dValT kvs q)).bind fun d => .ok (.dat d, e2)
      | _ => .no)
    | some (.fdc _) => (evE M k env).bind fun (rk, e1) => (R.opt (frz e1 rk)).bind fun (dk, e2) => (match slot e2 i with
      | some (.fdc kvs) => (R.opt (keyOf dk)).bind fun q => (R.opt (dVal kvs q)).bind fun d => .ok (.dat d, e2)
      | _ => .no)
    | _ => .no
  | .tget i k x, env => match slot env i with
    | some (.dtt _) => (evE M k env).bind fun (rk, e1) => (R.opt (frz e1 rk)).bind fun (dk, e2) => (evE M x e2).bind fun (rx, e3) => (R.opt (frz e3 rx)).bind fun (dx, e4) => (match slot e4 i with
      | some (.dtt kvs) => (R.opt (keyT dk)).bind fun q => .ok (.dat ((dValT kvs q).getD dx), e4)
      | _ => .no)
    | _ => .no
  | .dct a, env => (evE M a env).bind fun (ra, e1) => (R.opt (frz e1 ra)).bind fun (d, e2) => (R.opt (dctD d)).bind fun kvs => .ok (.td kvs, e2)
  | .dgx d k x, env => (evE M d env).bind fun (rd, e0) => match rd with
    | .td kvs => (evE M k e0).bind fun (rk, e1) => (R.opt (frz e1 rk)).bind fun (dk, e2) => (evE M x e2).bind fun (rx, e3) => (R.opt (frz e3 rx)).bind fun (dx, e4) => (R.opt (keyOf dk)).bind fun q => .ok (.dat ((dVal kvs q).getD dx), e4)
    | _ => .no
  | .tmi o a, env => (evE M o env).bind fun (ro, e1) => (R.opt (frz e1 ro)).bind fun (d, e2) => if tmiB d then (evE M a e2).bind fun (ra, e3) => (R.opt (vw e3 ra)).bind fun dx => (R.opt (tmiD d dx)).bind fun j => .ok (.dat (.int (j : Nat)), e3) else .no
def evDs (M : Mach) : Es → En → R (List D × En)
  | .nil, env => .ok ([], env)
  | .cons e r, env => (evE M e env).bind fun (re, e1) => (R.opt (frz e1 re)).bind fun (d, e2) => (evDs M r e2).bind fun (ds, e3) => .ok (d :: ds, e3)
def evA (M : Mach) : Es → En → R (List Rv × En)
  | .nil, env => .ok ([], env)
  | .cons e r, env => (evE M e env).bind fun (re, e1) => (evA M r e1).bind fun (rs, e2) => .ok (re :: rs, e2)
def evAnd (M : Mach) : Es → En → R (Rv × En)
  | .nil, _ => .no
  | .cons e .nil, env => evE M e env
  | .cons e (.cons f r), env => (evE M e env).bind fun (re, e1) => (R.opt (vw e1 re)).bind fun x => if truD x then evAnd M (.cons f r) e1 else .ok (re, e1)
def evOr (M : Mach) : Es → En → R (Rv × En)
  | .nil, _ => .no
  | .cons e .nil, env => evE M e env
  | .cons e (.cons f r), env => (evE M e env).bind fun (re, e1) => (R.opt (vw e1 re)).bind fun x => if truD x then .ok (re, e1) else evOr M (.cons f r) e1
def evO (M : Mach) : Oe → En → R (Option Int × En)
  | .no, env => .ok (none, env)
  | .yes e, env => (evE M e env).bind fun (re, e1) => match vw e1 re with
    | some (.int i) => .ok (some i, e1)
    | _ => .no
def evI (M : Mach) : Itr → En → R (List D × En)
  | .seq e, env => (evE M e env).bind fun (re, e1) => (R.opt (frz e1 re)).bind fun (d, e2) => match d with
    | .list xs => .ok (xs, e2)
    | .tuple xs => .ok (xs, e2)
    | .str z => .ok (z.cps.toList.map fun c => .str ⟨#[c]⟩, e2)
    | _ => .no
  | .kys i, env => match slot env i with
    | some (.dct kvs) => .ok (kvs.map (·.1), env.set i (some (.fdc kvs)))
    | some (.fdc kvs) => .ok (kvs.map (·.1), env)
    | _ => .no
  | .rng es, env => (evDs M es env).bind fun (ds, e1) => (R.opt (rngD ds)).bind fun xs => .ok (xs, e1)
  | .enu e, env => (evE M e env).bind fun (re, e1) => (R.opt (frz e1 re)).bind fun (d, e2) => match d with
    | .list xs => .ok (enuD xs, e2)
    | .tuple xs => .ok (enuD xs, e2)
    | _ => .no
  | .zip a b, env => (evE M a env).bind fun (ra, e1) => (R.opt (frz e1 ra)).bind fun (x, e2) => (evE M b e2).bind fun (rb, e3) => (R.opt (frz e3 rb)).bind fun (y, e4) =>
      match x, y with
      | .list xs, .list ys => .ok (zipD xs ys, e4)
      | .tuple xs, .tuple ys => .ok (zipD xs ys, e4)
      | _, _ => .no
  | .zpm a b, env => (evE M a env).bind fun (ra, e1) => (R.opt (frz e1 ra)).bind fun (x, e2) => (evE M b e2).bind fun (rb, e3) => (R.opt (frz e3 rb)).bind fun (y, e4) =>
      match x, y with
      | .tuple xs, .list ys => .ok (zipD xs ys, e4)
      | _, _ => .no
def evT (M : Mach) : T → En → R (Bool × En)
  | .val e, env => (evE M e env).bind fun (re, e1) => (R.opt (vw e1 re)).bind fun x => .ok (truD x, e1)
  | .and ts, env => evTA M ts env
  | .or ts, env => evTO M ts env
  | .not t, env => (evT M t env).bind fun (k, e1) => .ok (!k, e1)
  | .any, _ => .no
def evTA (M : Mach) : Ts → En → R (Bool × En)
  | .one t, env => evT M t env
  | .cons t r, env => (evT M t env).bind fun (k, e1) => if k then evTA M r e1 else .ok (false, e1)
def evTO (M : Mach) : Ts → En → R (Bool × En)
  | .one t, env => evT M t env
  | .cons t r, env => (evT M t env).bind fun (k, e1) => if k then .ok (true, e1) else evTO M r e1
def evOt (M : Mach) : Ot → En → R (Bool × En)
  | .no, env => .ok (true, env)
  | .yes t, env => evT M t env
end

/-- the turn of a dict comprehension -/
def dcpF (M : Mach) (k v : E) (t : Tg) (c : Ot) (own : List Nat) : D → List (D × D) → En → R (List (D × D) × En) := fun x acc env => (R.opt (asgD M t x (wipeE env own))).bind fun e2 => (evOt M c e2).bind fun (b, e3) =>
          if b then (evE M k e3).bind fun (rk, e4) => (R.opt (frz e4 rk)).bind fun (dk, e5) => (evE M v e5).bind fun (rv, e6) => (R.opt (frz e6 rv)).bind fun (dv, e7) => (R.opt (keyOf dk)).bind fun q => if sizeOk (acc.length + 1) then .ok (dPut acc dk q dv, e7) else .no
          else .ok (acc, e3)

/-! ### statements -/
inductive Fl where
  | nx (env : En) | rt (s : Sv) (env : En) | bk (env : En) | ct (env : En) | ex (c : Nat) (p : Option D) (env : En) | no
def R.fl {α : Type} : R α → (α → Fl) → Fl
  | .ok a, f => f a
  | .exc c p env, _ => .ex c p env
  | .no, _ => .no
@[simp] theorem R.fl_ok {α : Type} (a : α) (f : α → Fl) : (R.ok a).fl f = f a := rfl
@[simp] theorem R.fl_exc {α : Type} (c : Nat) (p : Option D) (env : En) (f : α → Fl) : (R.exc c p env : R α).fl f = .ex c p env := rfl
theorem R.fl_congr {α : Type} {x y : R α} {f : α → Fl} (h : x = y) : x.fl f = y.fl f := by rw [h]
/-- one statement behind another -/
def Fl.seq : Fl → (En → Fl) → Fl
  | .nx e, f => f e
  | g, _ => g
@[simp] theorem Fl.seq_nx (e : En) (f : En → Fl) : (Fl.nx e).seq f = f e := rfl
@[simp] theorem Fl.seq_rt (s : Sv) (e : En) (f : En → Fl) : (Fl.rt s e).seq f = .rt s e := rfl
@[simp] theorem Fl.seq_bk (e : En) (f : En → Fl) : (Fl.bk e).seq f = .bk e := rfl
@[simp] theorem Fl.seq_ct (e : En) (f : En → Fl) : (Fl.ct e).seq f = .ct e := rfl
@[simp] theorem Fl.seq_ex (c : Nat) (p : Option D) (e : En) (f : En → Fl) : (Fl.ex c p e).seq f = .ex c p e := rfl
@[simp] theorem Fl.seq_no (f : En → Fl) : Fl.no.seq f = .no := rfl
theorem Fl.seq_congr {x y : Fl} {f : En → Fl} (h : x = y) : x.seq f = y.seq f := by rw [h]
/-- a loop's turn -/
def Fl.turn : Fl → (En → Fl) → Fl
  | .nx e, f => f e
  | .ct e, f => f e
  | .bk e, _ => .nx e
  | g, _ => g
@[simp] theorem Fl.turn_nx (e : En) (f : En → Fl) : (Fl.nx e).turn f = f e := rfl
@[simp] theorem Fl.turn_ct (e : En) (f : En → Fl) : (Fl.ct e).turn f = f e := rfl
@[simp] theorem Fl.turn_bk (e : En) (f : En → Fl) : (Fl.bk e).turn f = .nx e := rfl
@[simp] theorem Fl.turn_rt (s : Sv) (e : En) (f : En → Fl) : (Fl.rt s e).turn f = .rt s e := rfl
@[simp] theorem Fl.turn_ex (c : Nat) (p : Option D) (e : En) (f : En → Fl) : (Fl.ex c p e).turn f = .ex c p e := rfl
@[simp] theorem Fl.turn_no (f : En → Fl) : Fl.no.turn f = .no := rfl
theorem Fl.turn_congr {x y : Fl} {f : En → Fl} (h : x = y) : x.turn f = y.turn f := by rw [h]
@[simp] theorem R.fl_no {α : Type} (f : α → Fl) : (R.no : R α).fl f = .no := rfl

/-- a value that goes to a name of its own -/
def own1 (env : En) : Rv → Option (Sv × En)
  | .dat d => some (.dat d, env)
  | .tl ds => some (.lst ds, env)
  | .td kvs => some (.dct kvs, env)
  | .tt kvs => some (.dtt kvs, env)
  | .plc i => (frz env (.plc i)).map fun (d, e) => (.dat d, e)
def asgR (M : Mach) (t : Tg) (r : Rv) (env : En) : Option En := match t with
  | .nm i => (own1 env r).bind fun (s, e1) => store M e1 i s
  | t => (frz env r).bind fun (d, e1) => asgD M t d e1
/-- a value that leaves its def -/
def outS (M : Mach) (env : En) : Rv → Option (Sv × En)
  | .dat d => some (.dat d, env)
  | .tl ds => some (.lst ds, env)
  | .td kvs => some (.dct kvs, env)
  | .tt kvs => some (.dtt kvs, env)
  | .plc i => if M.pin.contains i then (frz env (.plc i)).map fun (d, e) => (.dat d, e) else (slot env i).map fun s => (s, env.set i none)

def whileF (c : En → R (Bool × En)) (b : En → Fl) : Nat → En → Fl
  | 0, _ => .no
  | n + 1, env => (c env).fl fun (k, e1) => if k then (b e1).turn fun e2 => whileF c b n e2 else .nx e1
def Fl.opt : Option En → (En → Fl) → Fl
  | some e, f => f e
  | none, _ => .no
@[simp] theorem Fl.opt_some (e : En) (f : En → Fl) : Fl.opt (some e) f = f e := rfl
@[simp] theorem Fl.opt_none (f : En → Fl) : Fl.opt none f = .no := rfl
theorem Fl.opt_congr {x y : Option En} {f : En → Fl} (h : x = y) : Fl.opt x f = Fl.opt y f := by rw [h]
def forF (M : Mach) (t : Tg) (b : En → Fl) : List D → En → Fl
  | [], env => .nx env
  | x :: xs, env => Fl.opt (asgD M t x env) fun e1 => (b e1).turn fun e2 => forF M t b xs e2

def storeAll (M : Mach) : List Nat → List Sv → En → Option En
  | [], [], env => some env
  | i :: is, s :: ss, env => (store M env i s).bind fun e1 => storeAll M is ss e1
  | _, _, _ => none
def ownAll (env : En) : List Rv → Option (List Sv × En)
  | [] => some ([], env)
  | r :: rs => (own1 env r).bind fun (s, e1) => (ownAll e1 rs).map fun (ss, e2) => (s :: ss, e2)

/-- the clause that takes a class -/
def hFind : List (Nat × Nat × D) → Nat → Option (Nat × D)
  | [], _ => none
  | (c, i, v) :: r, k => if k == c then some (i, v) else hFind r k
def Fl.caught (M : Mach) (hs : List (Nat × Nat × D)) : Fl → Fl
  | .ex c p e => match hFind hs c with
    | some (i, v) => Fl.opt (store M e i (.dat v)) .nx
    | none => .ex c p e
  | g => g

mutual
def exS (M : Mach) : S → En → Fl
  | .pass, env => .nx env
  | .doc _, env => .nx env
  | .asg t e, env => (evE M e env).fl fun (r, e1) => Fl.opt (asgR M t r e1) fun e2 => .nx e2
  | .set x i v, env => (evE M v env).fl fun (rv, e1) => (R.opt (frz e1 rv)).fl fun (d, e2) => (evE M x e2).fl fun (rx, e3) => (evE M i e3).fl fun (ri, e4) => (R.opt (frz e4 ri)).fl fun (k, e5) =>
      match rx with
      | .plc j => match slot e5 j with
        | some s => match setW s k d with
          | some s' => .nx (e5.set j (some s'))
          | none => .no
        | none => .no
      | _ => .no
  | .aug i o e, env => match slot env i with
    | some (.dat x) => (evE M e env).fl fun (re, e1) => (R.opt (vw e1 re)).fl fun y => match o, x, y with
      | .Add, .int a, .int b => (R.opt (store M e1 i (.dat (.int (a + b))))).fl fun e2 => .nx e2
      | .Sub, .int a, .int b => (R.opt (store M e1 i (.dat (.int (a - b))))).fl fun e2 => .nx e2
      | _, _, _ => .no
    | _ => .no
  | .par is es, env => (evA M es env).fl fun (rs, e1) => (R.opt (ownAll e1 rs)).fl fun (ss, e2) => (R.opt (storeAll M is ss e2)).fl fun e3 => .nx e3
  | .exp e, env => (evE M e env).fl fun (_, e1) => .nx e1
  | .ret e, env => (evE M e env).fl fun (r, e1) => match outS M e1 r with
    | some (s, e2) => .rt s e2
    | none => .no
  | .retN, env => .rt (.dat .none) env
  | .ite c a b, env => (evT M c env).fl fun (k, e1) => if k then exSs M a e1 else exSs M b e1
  | .whl c b, env => whileF (evT M c) (exSs M b) M.fuel env
  | .for t it b, env => (evI M it env).fl fun (xs, e1) => forF M t (exSs M b) xs e1
  | .brk, env => .bk env
  | .cnt, env => .ct env
  | .rse _ _, _ => .no
  | .rai c, env => .ex c none env
  | .rap c e, env => (evE M e env).fl fun (r, e1) => (R.opt (frz e1 r)).fl fun (d, e2) => .ex c (some d) e2
  | .tra b c n i v, env => match exSs M b env with
    | .ex c' p e => if c' == c then (match p with
      | some d => if n == i then .no else (match store M e n (.dat .none) with
        | some _ => Fl.opt (store M e i (.dat (match v with | none => d | some z => .tuple [.str z, d]))) fun e2 => .nx (e2.set n none)
        | none => .no)
      | none => .no) else .ex c' p e
    | g => g
  | .tri b hs, env => (exSs M b env).caught M hs
  | .as2 i j e, env => (evE M e env).fl fun (r, e1) => match r with
    | .dat d => Fl.opt (store M e1 i (.dat d)) fun e2 => Fl.opt (store M e2 j (.dat d)) .nx
    | _ => .no
  | .sls x lo hi v, env => (evE M v env).fl fun (rv, e1) => (R.opt (frz e1 rv)).fl fun (d, e2) => (evE M x e2).fl fun (rx, e3) => (evE M lo e3).fl fun (ra, e4) => (R.opt ((vw e4 ra).bind intD)).fl fun a => (evE M hi e4).fl fun (rc, e5) => (R.opt ((vw e5 rc).bind intD)).fl fun c =>
      match rx with
      | .plc j => match slot e5 j with
        | some s => match slsW s a c d with
          | some s' => .nx (e5.set j (some s'))
          | none => .no
        | none => .no
      | _ => .no
def exSs (M : Mach) : Ss → En → Fl
  | .nil, env => .nx env
  | .cons s r, env => (exS M s env).seq fun e1 => exSs M r e1
end

/-! ### defs -/
structure Fn where
  np : Nat
  nn : Nat
  body : Ss
def isOwn : Sv → Bool
  | .dat _ => false
  | _ => true
def pinsOf : Nat → List Sv → List Nat
  | _, [] => []
  | i, s :: ss => if isOwn s then i :: pinsOf (i + 1) ss else pinsOf (i + 1) ss
/-- what the arguments hold behind a call -/
def outsO (env : En) : Nat → List Sv → Option (List Sv)
  | _, [] => some []
  | i, s :: ss => if isOwn s then (slot env i).bind fun o => (outsO env (i + 1) ss).map (o :: ·) else (outsO env (i + 1) ss).map (s :: ·)
/-- the program: its defs by number -/
structure Pg where
  fns : List Fn
  gl : Nat → Option D
  fuel : Nat
def isFd : Sv → Bool
  | .fdc _ => true
  | _ => false
def callF (G : Pg) : Nat → Nat → List Sv → CR
  | 0, _, _ => .no
  | k + 1, f, ss => match G.fns[f]? with
    | none => .no
    | some F => if ss.length = F.np then
        match exSs { call := callF G k, pin := pinsOf 0 ss, gl := G.gl, fuel := G.fuel } F.body (ss.map some ++ List.replicate (F.nn - F.np) none) with
        | .nx env => (match outsO env 0 ss with
          | some os => .ok (.dat .none) os
          | none => .no)
        | .rt s env => if isFd s then .no else (match outsO env 0 ss with
          | some os => .ok s os
          | none => .no)
        | .ex c p env => (match outsO env 0 ss with
          | some os => .exc c p os
          | none => .no)
        | _ => .no
      else .no
end Rf
end

-- text RfB
section
set_option Elab.async false
set_option linter.all false
set_option maxRecDepth 100000
set_option maxHeartbeats 1000000
/-! RfB: how the data lies in the abstract heap. -/
namespace Rf
open PySem L2

/-- a text that the model bears -/
def StrFit (x : Str) : Prop := x.length ≤ sizeLine ∧ PyData.strOk x = true

/-- a tuple: tracked with its object, or as a key -/
def tpl (fz : Bool) (o : Obj) (xs : List V) : HO := if fz then .frz o (.tup xs) else .tup xs
theorem tpl_rd {H : Hp} {a : Addr} {fz : Bool} {o : Obj} {xs : List V} (h : H a = some (tpl fz o xs)) : Rd H a (.tup xs) := by
  cases fz with
  | true => exact .inr ⟨o, h⟩
  | false => exact .inl h
/-! ### data that changes no more: Z tells which tracked objects do not -/
mutual
inductive Rp (K : PySem.W.Frag) (H : Hp) (Z : Addr → Prop) : V → D → Prop
  | non : Rp K H Z .non .none
  | bl (b : Bool) : Rp K H Z (.bl b) (.bool b)
  | int (i : Int) : Rp K H Z (.int i) (.int i)
  | str (x : Str) (h : StrFit x) : Rp K H Z (.str x) (.str x)
  | lst {a : Addr} {xs : List V} {ds : List D} : Z a → Rd H a (.lst xs) → RpAll K H Z xs ds → Rp K H Z (.ref a) (.list ds)
  | tup {a : Addr} {xs : List V} {ds : List D} (o : Obj) : Z a → o.dict = none → H a = some (tpl (cleanB ds) o xs) → RpAll K H Z xs ds → Rp K H Z (.ref a) (.tuple ds)
  | slst {a : Addr} {xs : List V} {ds : List D} : (∀ H' : Hp, SqL K H' a xs) → RpAll K H Z xs ds → Rp K H Z (.ref a) (.list ds)
  | stup {a : Addr} {xs : List V} {ds : List D} : statB ds = true → (∀ H' : Hp, SqT K H' a xs) → RpAll K H Z xs ds → Rp K H Z (.ref a) (.tuple ds)
inductive RpAll (K : PySem.W.Frag) (H : Hp) (Z : Addr → Prop) : List V → List D → Prop
  | nil : RpAll K H Z [] []
  | cons {v : V} {vs : List V} {d : D} {ds : List D} : Rp K H Z v d → RpAll K H Z vs ds → RpAll K H Z (v :: vs) (d :: ds)
end

section
variable {K : PySem.W.Frag} {H H' : Hp} {Z Z' : Addr → Prop}
mutual
theorem Rp.dp : ∀ {d : D} {v : V}, Rp K H Z v d → Dp K H v d
  | .none, _, h => by cases h; exact .non
  | .bool b, _, h => by cases h; exact .bl b
  | .int i, _, h => by cases h; exact .int i
  | .str x, _, h => by cases h; exact .str x
  | .list ds, _, h => by
    cases h with
    | lst _ r a => exact .lst (.inl r) (RpAll.dp a)
    | slst r a => exact .lst (r H) (RpAll.dp a)
  | .tuple ds, _, h => by
    cases h with
    | tup _ _ _ r a => exact .tup (.inl (tpl_rd r)) (RpAll.dp a)
    | stup _ r a => exact .tup (r H) (RpAll.dp a)
  | .dict _, _, h => by cases h
theorem RpAll.dp : ∀ {ds : List D} {vs : List V}, RpAll K H Z vs ds → DpAll K H vs ds
  | [], _, h => by cases h; exact .nil
  | d :: ds, _, h => by
    cases h with
    | cons h1 h2 => exact .cons (Rp.dp h1) (RpAll.dp h2)
end
mutual
theorem Rp.mono (hz : ∀ a, Z a → Z' a) (hh : ∀ a o, Z a → H a = some o → H' a = some o) : ∀ {d : D} {v : V}, Rp K H Z v d → Rp K H' Z' v d
  | .none, _, h => by cases h; exact .non
  | .bool b, _, h => by cases h; exact .bl b
  | .int i, _, h => by cases h; exact .int i
  | .str x, _, h => by cases h with | str _ h => exact .str x h
  | .list ds, _, h => by
    cases h with
    | lst z r a => exact .lst (hz _ z) (r.elim (fun e => .inl (hh _ _ z e)) fun ⟨o, e⟩ => .inr ⟨o, hh _ _ z e⟩) (RpAll.mono hz hh a)
    | slst r a => exact .slst r (RpAll.mono hz hh a)
  | .tuple ds, _, h => by
    cases h with
    | tup o z hd r a => exact .tup o (hz _ z) hd (hh _ _ z r) (RpAll.mono hz hh a)
    | stup c r a => exact .stup c r (RpAll.mono hz hh a)
  | .dict _, _, h => by cases h
theorem RpAll.mono (hz : ∀ a, Z a → Z' a) (hh : ∀ a o, Z a → H a = some o → H' a = some o) : ∀ {ds : List D} {vs : List V}, RpAll K H Z vs ds → RpAll K H' Z' vs ds
  | [], _, h => by cases h; exact .nil
  | d :: ds, _, h => by
    cases h with
    | cons h1 h2 => exact .cons (Rp.mono hz hh h1) (RpAll.mono hz hh h2)
end
mutual
theorem Rp.can : ∀ {d : D} {v : V}, Rp K H Z v d → d.canLay0 = true
  | .none, _, _ => rfl
  | .bool _, _, _ => rfl
  | .int _, _, _ => rfl
  | .str x, _, h => by cases h with | str _ h => exact h.2
  | .list ds, _, h => by
    cases h with
    | lst _ _ a => exact RpAll.can a
    | slst _ a => exact RpAll.can a
  | .tuple ds, _, h => by
    cases h with
    | tup _ _ _ _ a => exact RpAll.can a
    | stup _ _ a => exact RpAll.can a
  | .dict _, _, h => by cases h
theorem RpAll.can : ∀ {ds : List D} {vs : List V}, RpAll K H Z vs ds → PyData.canLayAll0 ds = true
  | [], _, _ => rfl
  | d :: ds, _, h => by
    cases h with
    | cons h1 h2 =>
      show (d.canLay0 && PyData.canLayAll0 ds) = true
      rw [Rp.can h1, RpAll.can h2] <;> rfl
end
theorem RpAll.length : ∀ {vs : List V} {ds : List D}, RpAll K H Z vs ds → vs.length = ds.length
  | _, _, .nil => rfl
  | _, _, .cons _ t => by simp [RpAll.length t]
theorem RpAll.append : ∀ {vs ws : List V} {ds es : List D}, RpAll K H Z vs ds → RpAll K H Z ws es → RpAll K H Z (vs ++ ws) (ds ++ es)
  | _, _, _, _, .nil, s => s
  | _, _, _, _, .cons r t, s => .cons r (RpAll.append t s)
theorem RpAll.get : ∀ {vs : List V} {ds : List D} {i : Nat} {v : V}, RpAll K H Z vs ds → vs[i]? = some v → ∃ d, ds[i]? = some d ∧ Rp K H Z v d
  | _, _, _, _, .nil, e => by simp at e
  | _, _, 0, _, .cons r _, e => by simp at e; subst e; exact ⟨_, rfl, r⟩
  | _, _, i + 1, v, .cons _ t, e => by
    obtain ⟨d, h1, h2⟩ := RpAll.get (i := i) (v := v) t (by simpa using e)
    exact ⟨d, by simpa using h1, h2⟩
theorem RpAll.getD : ∀ {vs : List V} {ds : List D} {i : Nat} {d : D}, RpAll K H Z vs ds → ds[i]? = some d → ∃ v, vs[i]? = some v ∧ Rp K H Z v d
  | _, _, _, _, .nil, e => by simp at e
  | _, _, 0, _, .cons r _, e => by simp at e; subst e; exact ⟨_, rfl, r⟩
  | _, _, i + 1, v, .cons _ t, e => by
    obtain ⟨d, h1, h2⟩ := RpAll.getD (i := i) (d := v) t (by simpa using e)
    exact ⟨d, by simpa using h1, h2⟩
theorem RpAll.take : ∀ {vs : List V} {ds : List D} (n : Nat), RpAll K H Z vs ds → RpAll K H Z (vs.take n) (ds.take n)
  | _, _, 0, _ => .nil
  | _, _, _ + 1, .nil => .nil
  | _, _, n + 1, .cons r t => .cons r (RpAll.take n t)
theorem RpAll.drop : ∀ {vs : List V} {ds : List D} (n : Nat), RpAll K H Z vs ds → RpAll K H Z (vs.drop n) (ds.drop n)
  | _, _, 0, r => r
  | _, _, _ + 1, .nil => .nil
  | _, _, n + 1, .cons _ t => RpAll.drop n t
theorem RpAll.set {v : V} {d : D} (r : Rp K H Z v d) : ∀ {vs : List V} {ds : List D} (i : Nat), RpAll K H Z vs ds → RpAll K H Z (vs.set i v) (ds.set i d)
  | _, _, _, .nil => .nil
  | _, _, 0, .cons _ t => .cons r t
  | _, _, i + 1, .cons q t => .cons q (RpAll.set r i t)
theorem RpAll.reverse : ∀ {vs : List V} {ds : List D}, RpAll K H Z vs ds → RpAll K H Z vs.reverse ds.reverse
  | _, _, .nil => .nil
  | _, _, .cons r t => by
    rw [List.reverse_cons, List.reverse_cons]
    exact (RpAll.reverse t).append (.cons r .nil)
theorem RpAll.rep {vs : List V} {ds : List D} (h : RpAll K H Z vs ds) : ∀ k : Nat, RpAll K H Z (List.replicate k vs).flatten (List.replicate k ds).flatten
  | 0 => .nil
  | k + 1 => by
    rw [List.replicate_succ, List.replicate_succ, List.flatten_cons, List.flatten_cons]
    exact h.append (RpAll.rep h k)
theorem RpAll.cut {vs : List V} {ds : List D} (h : RpAll K H Z vs ds) (lo hi : Option Int) : RpAll K H Z (cutV vs lo hi) (cutL ds lo hi) := by
  unfold cutV cutL
  rw [h.length]
  exact (h.drop _).take _
theorem RpAll.snoc {vs : List V} {ds : List D} {v : V} {d : D} (h : RpAll K H Z vs ds) (r : Rp K H Z v d) : RpAll K H Z (vs ++ [v]) (ds ++ [d]) := h.append (.cons r .nil)
end

/-! ### dicts -/
def KeyFit : D → Prop
  | .str z => StrFit z
  | _ => True
inductive KvR (K : PySem.W.Frag) (H : Hp) (Z : Addr → Prop) : List (Key × V) → List (D × D) → Prop
  | nil : KvR K H Z [] []
  | cons {k : Key} {v : V} {ws : List (Key × V)} {dk dv : D} {kvs : List (D × D)} : keyOf dk = some k → KeyFit dk → Rp K H Z v dv → KvR K H Z ws kvs → KvR K H Z ((k, v) :: ws) ((dk, dv) :: kvs)
section
variable {K : PySem.W.Frag} {H H' : Hp} {Z Z' : Addr → Prop}
theorem KvR.mono (hz : ∀ a, Z a → Z' a) (hh : ∀ a o, Z a → H a = some o → H' a = some o) : ∀ {ws : List (Key × V)} {kvs : List (D × D)}, KvR K H Z ws kvs → KvR K H' Z' ws kvs
  | _, _, .nil => .nil
  | _, _, .cons h1 hf h2 h3 => .cons h1 hf (h2.mono hz hh) (h3.mono hz hh)
theorem KvR.length : ∀ {ws : List (Key × V)} {kvs : List (D × D)}, KvR K H Z ws kvs → ws.length = kvs.length
  | _, _, .nil => rfl
  | _, _, .cons _ _ _ h => by simp [h.length]
theorem KvR.val (q : Key) : ∀ {ws : List (Key × V)} {kvs : List (D × D)}, KvR K H Z ws kvs → (dVal kvs q = none ∧ valV ws q = none) ∨ ∃ d v, dVal kvs q = some d ∧ valV ws q = some v ∧ Rp K H Z v d
  | _, _, .nil => .inl ⟨rfl, rfl⟩
  | _, _, .cons (k := k) (dk := dk) h1 hf h2 h3 => by
    by_cases e : k = q
    · subst e
      exact .inr ⟨_, _, by simp [dVal, List.find?_cons, h1], by simp [valV, List.find?_cons], h2⟩
    · have e2 : ¬ keyOf dk = some q := fun z => e (Option.some.inj (h1.symm.trans z))
      rcases h3.val q with ⟨a, b⟩ | ⟨d, v, a, b, c⟩
      · exact .inl ⟨by simpa [dVal, List.find?_cons, e2] using a, by simpa [valV, List.find?_cons, e] using b⟩
      · exact .inr ⟨d, v, by simpa [dVal, List.find?_cons, e2] using a, by simpa [valV, List.find?_cons, e] using b, c⟩
theorem KvR.any (q : Key) : ∀ {ws : List (Key × V)} {kvs : List (D × D)}, KvR K H Z ws kvs → (ws.any fun kv => decide (kv.1 = q)) = kvs.any fun kv => decide (keyOf kv.1 = some q)
  | _, _, .nil => rfl
  | _, _, .cons h1 hf h2 h3 => by simp [h1, h3.any q]
theorem KvR.repl (q : Key) {v : V} {d : D} (r : Rp K H Z v d) : ∀ {ws : List (Key × V)} {kvs : List (D × D)}, KvR K H Z ws kvs → KvR K H Z (ws.map fun kv => if kv.1 = q then (kv.1, v) else kv) (kvs.map fun kv => if keyOf kv.1 = some q then (kv.1, d) else kv)
  | _, _, .nil => .nil
  | _, _, .cons (k := k) (dk := dk) h1 hf h2 h3 => by
    rw [List.map_cons, List.map_cons]
    by_cases e : k = q
    · subst e
      rw [if_pos rfl, if_pos h1]
      exact .cons h1 hf r (h3.repl k r)
    · have e2 : ¬ keyOf dk = some q := fun z => e (Option.some.inj (h1.symm.trans z))
      rw [if_neg e, if_neg e2]
      exact .cons h1 hf h2 (h3.repl q r)
theorem KvR.snoc {k : Key} {v : V} {dk dv : D} (h1 : keyOf dk = some k) (hf : KeyFit dk) (h2 : Rp K H Z v dv) : ∀ {ws : List (Key × V)} {kvs : List (D × D)}, KvR K H Z ws kvs → KvR K H Z (ws ++ [(k, v)]) (kvs ++ [(dk, dv)])
  | _, _, .nil => .cons h1 hf h2 .nil
  | _, _, .cons a af b c => .cons a af b (c.snoc h1 hf h2)
theorem KvR.keyFit : ∀ {ws : List (Key × V)} {kvs : List (D × D)} {z : Str}, KvR K H Z ws kvs → PyData.str z ∈ kvs.map (·.1) → StrFit z
  | _, _, _, .nil, h => by simp at h
  | _, _, z, .cons (dk := dk) h1 hf h2 h3, h => by
    rcases List.mem_cons.mp h with e | h
    · have e : PyData.str z = dk := e
      subst e; exact hf
    · exact h3.keyFit h
theorem Rp.keyFit {v : V} {d : D} (h : Rp K H Z v d) : KeyFit d := by
  cases h <;> first | trivial | (rename_i h; exact h)
theorem KvR.put {ws : List (Key × V)} {kvs : List (D × D)} {q : Key} {v : V} {dk dv : D} (h : KvR K H Z ws kvs) (hk : keyOf dk = some q) (hf : KeyFit dk) (r : Rp K H Z v dv) : KvR K H Z (putK ws q v) (dPut kvs dk q dv) := by
  unfold putK dPut
  rw [h.any q]
  split
  · exact h.repl q r
  · exact h.snoc hk hf r
end

/-! ### dicts with tuple keys -/
def KeyFitT : D → Prop
  | .tuple ds => ∀ d ∈ ds, KeyFit d
  | _ => True
inductive KtR (K : PySem.W.Frag) (H : Hp) (Z : Addr → Prop) : List (List Key × V) → List (D × D) → Prop
  | nil : KtR K H Z [] []
  | cons {k : List Key} {v : V} {ws : List (List Key × V)} {dk dv : D} {kvs : List (D × D)} : keyT dk = some k → KeyFitT dk → Rp K H Z v dv → KtR K H Z ws kvs → KtR K H Z ((k, v) :: ws) ((dk, dv) :: kvs)
section
variable {K : PySem.W.Frag} {H H' : Hp} {Z Z' : Addr → Prop}
theorem KtR.mono (hz : ∀ a, Z a → Z' a) (hh : ∀ a o, Z a → H a = some o → H' a = some o) : ∀ {ws : List (List Key × V)} {kvs : List (D × D)}, KtR K H Z ws kvs → KtR K H' Z' ws kvs
  | _, _, .nil => .nil
  | _, _, .cons h1 hf h2 h3 => .cons h1 hf (h2.mono hz hh) (h3.mono hz hh)
theorem KtR.length : ∀ {ws : List (List Key × V)} {kvs : List (D × D)}, KtR K H Z ws kvs → ws.length = kvs.length
  | _, _, .nil => rfl
  | _, _, .cons _ _ _ h => by simp [h.length]
theorem KtR.val (q : List Key) : ∀ {ws : List (List Key × V)} {kvs : List (D × D)}, KtR K H Z ws kvs → (dValT kvs q = none ∧ valV ws q = none) ∨ ∃ d v, dValT kvs q = some d ∧ valV ws q = some v ∧ Rp K H Z v d
  | _, _, .nil => .inl ⟨rfl, rfl⟩
  | _, _, .cons (k := k) (dk := dk) h1 hf h2 h3 => by
    by_cases e : k = q
    · subst e
      exact .inr ⟨_, _, by simp [dValT, List.find?_cons, h1], by simp [valV, List.find?_cons], h2⟩
    · have e2 : ¬ keyT dk = some q := fun z => e (Option.some.inj (h1.symm.trans z))
      rcases h3.val q with ⟨a, b⟩ | ⟨d, v, a, b, c⟩
      · exact .inl ⟨by simpa [dValT, List.find?_cons, e2] using a, by simpa [valV, List.find?_cons, e] using b⟩
      · exact .inr ⟨d, v, by simpa [dValT, List.find?_cons, e2] using a, by simpa [valV, List.find?_cons, e] using b, c⟩
theorem KtR.any (q : List Key) : ∀ {ws : List (List Key × V)} {kvs : List (D × D)}, KtR K H Z ws kvs → (ws.any fun kv => decide (kv.1 = q)) = kvs.any fun kv => decide (keyT kv.1 = some q)
  | _, _, .nil => rfl
  | _, _, .cons h1 hf h2 h3 => by simp [h1, h3.any q]
theorem KtR.repl (q : List Key) {v : V} {d : D} (r : Rp K H Z v d) : ∀ {ws : List (List Key × V)} {kvs : List (D × D)}, KtR K H Z ws kvs → KtR K H Z (ws.map fun kv => if kv.1 = q then (kv.1, v) else kv) (kvs.map fun kv => if keyT kv.1 = some q then (kv.1, d) else kv)
  | _, _, .nil => .nil
  | _, _, .cons (k := k) (dk := dk) h1 hf h2 h3 => by
    rw [List.map_cons, List.map_cons]
    by_cases e : k = q
    · subst e
      rw [if_pos rfl, if_pos h1]
      exact .cons h1 hf r (h3.repl k r)
    · have e2 : ¬ keyT dk = some q := fun z => e (Option.some.inj (h1.symm.trans z))
      rw [if_neg e, if_neg e2]
      exact .cons h1 hf h2 (h3.repl q r)
theorem KtR.snoc {k : List Key} {v : V} {dk dv : D} (h1 : keyT dk = some k) (hf : KeyFitT dk) (h2 : Rp K H Z v dv) : ∀ {ws : List (List Key × V)} {kvs : List (D × D)}, KtR K H Z ws kvs → KtR K H Z (ws ++ [(k, v)]) (kvs ++ [(dk, dv)])
  | _, _, .nil => .cons h1 hf h2 .nil
  | _, _, .cons a af b c => .cons a af b (c.snoc h1 hf h2)
theorem KtR.put {ws : List (List Key × V)} {kvs : List (D × D)} {q : List Key} {v : V} {dk dv : D} (h : KtR K H Z ws kvs) (hk : keyT dk = some q) (hf : KeyFitT dk) (r : Rp K H Z v dv) : KtR K H Z (putK ws q v) (dPutT kvs dk q dv) := by
  unfold putK dPutT
  rw [h.any q]
  split
  · exact h.repl q r
  · exact h.snoc hk hf r
theorem RpAll.keysV : ∀ {ds : List D} {vs : List V} {q : List Key}, RpAll K H Z vs ds → keysOf ds = some q → vs = q.map kV ∧ ∀ d ∈ ds, KeyFit d
  | [], _, q, h, e => by cases h; cases e; exact ⟨rfl, fun d hd => by simp at hd⟩
  | d :: ds, _, q, h, e => by
    cases h with
    | cons h1 h2 =>
      obtain ⟨k, hk, e⟩ := Option.bind_eq_some_iff.mp (show ((keyOf d).bind fun k => (keysOf ds).map (k :: ·)) = some q from e)
      obtain ⟨r, hr, rfl⟩ := Option.map_eq_some_iff.mp e
      obtain ⟨e1, e2⟩ := RpAll.keysV h2 hr
      have ex : ∀ v, Rp K H Z v d → v = kV k := fun v hv => by
        cases d with
        | int i => cases hk; cases hv; rfl
        | str z => cases hk; cases hv; rfl
        | _ => cases hk
      refine ⟨by rw [ex _ h1, e1]; rfl, fun x hx => ?_⟩
      rcases List.mem_cons.mp hx with rfl | hx
      · exact h1.keyFit
      · exact e2 x hx
/-- a key that is a tuple -/
theorem Rp.keyV {v : V} {d : D} {q : List Key} (h : Rp K H Z v d) (e : keyT d = some q) : KeyFitT d ∧ ∃ b, v = .ref b ∧ H b = some (.tup (q.map kV)) := by
  cases d with
  | tuple ds =>
    have e : (if (statB ds || cleanB ds) = true then none else keysOf ds) = some q := e
    by_cases ns : (statB ds || cleanB ds) = true
    · rw [if_pos ns] at e; cases e
    · rw [if_neg ns] at e
      simp only [Bool.or_eq_true, not_or, Bool.not_eq_true] at ns
      cases h with
      | tup o z hd r a =>
        obtain ⟨e1, e2⟩ := a.keysV e
        rw [ns.2] at r
        exact ⟨e2, _, rfl, by rw [r, ← e1]; rfl⟩
      | stup c r a => rw [ns.1] at c; cases c
  | _ => cases e
end

/-! ### what a slot holds -/
def SvR (K : PySem.W.Frag) (H : Hp) (Z : Addr → Prop) : Sv → V → List Addr → Prop
  | .dat d, v, f => Rp K H Z v d ∧ f = []
  | .lst ds, v, f => ∃ a vs, v = .ref a ∧ f = [a] ∧ H a = some (.lst vs) ∧ RpAll K H Z vs ds ∧ ¬ Z a
  | .dct kvs, v, f => ∃ a ws, v = .ref a ∧ f = [a] ∧ H a = some (.dK ws) ∧ KvR K H Z ws kvs ∧ ¬ Z a
  | .dtt kvs, v, f => ∃ a ws, v = .ref a ∧ f = [a] ∧ H a = some (.dT ws) ∧ KtR K H Z ws kvs ∧ ¬ Z a
  | .fdc kvs, v, f => ∃ a ws o, v = .ref a ∧ f = [] ∧ Z a ∧ H a = some (.frz o (.dK ws)) ∧ KvR K H Z ws kvs

/-- from (H, Z) to (H', Z'): what O does not own is as it was -/
structure Step (H : Hp) (Z O : Addr → Prop) (H' : Hp) (Z' O' : Addr → Prop) : Prop where
  mono : ∀ a, Z a → Z' a
  keep : ∀ a o, H a = some o → ¬ O a → H' a = some o ∧ (Z' a → Z a)
  new : ∀ a, O' a → O a ∨ H a = none
theorem Step.refl {H : Hp} {Z O : Addr → Prop} : Step H Z O H Z O := ⟨fun _ h => h, fun _ _ h _ => ⟨h, fun z => z⟩, fun _ h => .inl h⟩
theorem Step.trans {H H1 H2 : Hp} {Z O Z1 O1 Z2 O2 : Addr → Prop} (a : Step H Z O H1 Z1 O1) (b : Step H1 Z1 O1 H2 Z2 O2) : Step H Z O H2 Z2 O2 where
  mono := fun x h => b.mono x (a.mono x h)
  keep := fun x o h n => by
    obtain ⟨h1, z1⟩ := a.keep x o h n
    have n1 : ¬ O1 x := fun q => (a.new x q).elim n fun e => by rw [h] at e; cases e
    obtain ⟨h2, z2⟩ := b.keep x o h1 n1
    exact ⟨h2, fun z => z1 (z2 z)⟩
  new := fun x q => by
    rcases b.new x q with q1 | e
    · exact a.new x q1
    · cases hx : H x with
      | none => exact .inr rfl
      | some o =>
        by_cases n : O x
        · exact .inl n
        · obtain ⟨h1, _⟩ := a.keep x o hx n
          rw [h1] at e; cases e
/-- fewer are owned behind it, more ahead -/
theorem Step.weak {H H' : Hp} {Z O O1 Z' O' O1' : Addr → Prop} (a : Step H Z O H' Z' O') (h : ∀ x, O x → O1 x) (h' : ∀ x, O1' x → O' x ∨ O1 x ∨ H x = none) : Step H Z O1 H' Z' O1' :=
  ⟨a.mono, fun x o e n => a.keep x o e fun q => n (h x q), fun x q => (h' x q).elim (fun q => (a.new x q).elim (fun q => .inl (h x q)) .inr) fun q => q⟩

/-- only new objects -/
structure Grow (H : Hp) (Z : Addr → Prop) (H' : Hp) (Z' : Addr → Prop) : Prop where
  mono : ∀ a, Z a → Z' a
  keep : ∀ a o, H a = some o → H' a = some o ∧ (Z' a → Z a)
theorem Grow.refl {H : Hp} {Z : Addr → Prop} : Grow H Z H Z := ⟨fun _ h => h, fun _ _ h => ⟨h, fun z => z⟩⟩
theorem Grow.step {H H' : Hp} {Z Z' O : Addr → Prop} (g : Grow H Z H' Z') : Step H Z O H' Z' O := ⟨g.mono, fun a o h _ => g.keep a o h, fun _ h => .inl h⟩
theorem Grow.trans {H H1 H2 : Hp} {Z Z1 Z2 : Addr → Prop} (a : Grow H Z H1 Z1) (b : Grow H1 Z1 H2 Z2) : Grow H Z H2 Z2 :=
  ⟨fun x h => b.mono x (a.mono x h), fun x o h => ⟨(b.keep x o (a.keep x o h).1).1, fun z => (a.keep x o h).2 ((b.keep x o (a.keep x o h).1).2 z)⟩⟩
/-- a new object that changes no more -/
def zadd (Z : Addr → Prop) (p : Addr) : Addr → Prop := fun a => Z a ∨ a = p
theorem Grow.newZ {H : Hp} {Z : Addr → Prop} {p : Addr} {o : HO} (n : H p = none) : Grow H Z (upd H p o) (zadd Z p) :=
  ⟨fun _ h => .inl h, fun a u h => ⟨by rw [upd_ne (ne_of_none h n)]; exact h, fun z => z.elim (fun z => z) fun e => absurd e (ne_of_none h n)⟩⟩
theorem Grow.new {H : Hp} {Z : Addr → Prop} {p : Addr} {o : HO} (n : H p = none) : Grow H Z (upd H p o) Z :=
  ⟨fun _ h => h, fun a u h => ⟨by rw [upd_ne (ne_of_none h n)]; exact h, fun z => z⟩⟩
abbrev Zok (H : Hp) (Z : Addr → Prop) : Prop := ∀ a, Z a → H a ≠ none
theorem Zok.newZ {H : Hp} {Z : Addr → Prop} {p : Addr} {o : HO} (z : Zok H Z) : Zok (upd H p o) (zadd Z p) := fun a h => by
  by_cases e : a = p
  · rw [e, upd_same]; exact fun q => nomatch q
  · rw [upd_ne e]; exact h.elim (z a) fun q => absurd q e
theorem Zok.upd {H : Hp} {Z : Addr → Prop} {p : Addr} {o : HO} (z : Zok H Z) : Zok (upd H p o) Z := fun a h => by
  by_cases e : a = p
  · rw [e, upd_same]; exact fun q => nomatch q
  · rw [upd_ne e]; exact z a h

section
variable {K : PySem.W.Frag} {H H' : Hp} {Z Z' O O' : Addr → Prop}
theorem Rp.step {v : V} {d : D} (r : Rp K H Z v d) (s : Step H Z O H' Z' O') (hzo : ∀ a, Z a → ¬ O a) : Rp K H' Z' v d := r.mono s.mono fun a o z e => (s.keep a o e (hzo a z)).1
theorem RpAll.step {vs : List V} {ds : List D} (r : RpAll K H Z vs ds) (s : Step H Z O H' Z' O') (hzo : ∀ a, Z a → ¬ O a) : RpAll K H' Z' vs ds := r.mono s.mono fun a o z e => (s.keep a o e (hzo a z)).1
theorem Rp.grow {v : V} {d : D} (r : Rp K H Z v d) (g : Grow H Z H' Z') : Rp K H' Z' v d := r.mono g.mono fun a o _ e => (g.keep a o e).1
theorem RpAll.grow {vs : List V} {ds : List D} (r : RpAll K H Z vs ds) (g : Grow H Z H' Z') : RpAll K H' Z' vs ds := r.mono g.mono fun a o _ e => (g.keep a o e).1
theorem SvR.step {s : Sv} {v : V} {f : List Addr} (r : SvR K H Z s v f) (st : Step H Z O H' Z' O') (hzo : ∀ a, Z a → ¬ O a) (hf : ∀ a ∈ f, ¬ O a) : SvR K H' Z' s v f := by
  cases s with
  | dat d => exact ⟨r.1.step st hzo, r.2⟩
  | lst ds =>
    obtain ⟨a, vs, rfl, rfl, e, h, nz⟩ := r
    obtain ⟨e', z⟩ := st.keep a _ e (hf a (by simp))
    exact ⟨a, vs, rfl, rfl, e', h.step st hzo, fun q => nz (z q)⟩
  | dct _ =>
    obtain ⟨a, vs, rfl, rfl, e, h, nz⟩ := r
    obtain ⟨e', z⟩ := st.keep a _ e (hf a (by simp))
    exact ⟨a, vs, rfl, rfl, e', h.mono st.mono fun a o z e => (st.keep a o e (hzo a z)).1, fun q => nz (z q)⟩
  | dtt _ =>
    obtain ⟨a, vs, rfl, rfl, e, h, nz⟩ := r
    obtain ⟨e', z⟩ := st.keep a _ e (hf a (by simp))
    exact ⟨a, vs, rfl, rfl, e', h.mono st.mono fun a o z e => (st.keep a o e (hzo a z)).1, fun q => nz (z q)⟩
  | fdc _ =>
    obtain ⟨a, vs, o, rfl, rfl, z, e, h⟩ := r
    exact ⟨a, vs, o, rfl, rfl, st.mono a z, (st.keep a _ e (hzo a z)).1, h.mono st.mono fun a o z e => (st.keep a o e (hzo a z)).1⟩
theorem SvR.owned {s : Sv} {v : V} {f : List Addr} (r : SvR K H Z s v f) : ∀ a ∈ f, ¬ Z a ∧ H a ≠ none := by
  intro a ha
  cases s with
  | dat d => rw [r.2] at ha; simp at ha
  | lst ds =>
    obtain ⟨b, vs, rfl, rfl, e, h, nz⟩ := r
    simp at ha; subst ha
    exact ⟨nz, by rw [e]; exact fun q => nomatch q⟩
  | dct _ =>
    obtain ⟨b, vs, rfl, rfl, e, h, nz⟩ := r
    simp at ha; subst ha
    exact ⟨nz, by rw [e]; exact fun q => nomatch q⟩
  | dtt _ =>
    obtain ⟨b, vs, rfl, rfl, e, h, nz⟩ := r
    simp at ha; subst ha
    exact ⟨nz, by rw [e]; exact fun q => nomatch q⟩
  | fdc _ =>
    obtain ⟨b, vs, o, rfl, rfl, z, e, h⟩ := r
    simp at ha
end

/-! ### the slots -/
structure Rel (K : PySem.W.Frag) (H : Hp) (Z : Addr → Prop) (env : En) (σ : St) (fp : Nat → List Addr) : Prop where
  at_ : ∀ i s, slot env i = some s → ∃ v, σ[i]? = some (some v) ∧ SvR K H Z s v (fp i)
  no_ : ∀ i, slot env i = none → fp i = []
  dj : ∀ i j a, a ∈ fp i → a ∈ fp j → i = j
  len : env.length = σ.length
  zs : Zok H Z
def Ow (fp : Nat → List Addr) : Addr → Prop := fun a => ∃ i, a ∈ fp i
def Owr (fp : Nat → List Addr) (fr : List Addr) : Addr → Prop := fun a => (∃ i, a ∈ fp i) ∨ a ∈ fr
section
variable {K : PySem.W.Frag} {H H' : Hp} {Z Z' O O' : Addr → Prop} {env : En} {σ : St} {fp : Nat → List Addr}
theorem Rel.owned (r : Rel K H Z env σ fp) {a : Addr} (h : Ow fp a) : ¬ Z a ∧ H a ≠ none := by
  obtain ⟨i, hi⟩ := h
  cases q : slot env i with
  | none => rw [r.no_ i q] at hi; simp at hi
  | some s =>
    obtain ⟨v, _, h⟩ := r.at_ i s q
    exact h.owned a hi
theorem Rel.zo (r : Rel K H Z env σ fp) : ∀ a, Z a → ¬ Ow fp a := fun a z o => (r.owned o).1 z
theorem Rel.step (r : Rel K H Z env σ fp) (st : Step H Z O H' Z' O') (zok : Zok H' Z') (hzo : ∀ a, Z a → ¬ O a) (hf : ∀ a, Ow fp a → ¬ O a) : Rel K H' Z' env σ fp :=
  ⟨fun i s e => let ⟨v, h1, h2⟩ := r.at_ i s e; ⟨v, h1, h2.step st hzo fun a ha => hf a ⟨i, ha⟩⟩, r.no_, r.dj, r.len, zok⟩
theorem Rel.grow (r : Rel K H Z env σ fp) (g : Grow H Z H' Z') (zok : Zok H' Z') : Rel K H' Z' env σ fp :=
  r.step (O := fun _ => False) (O' := fun _ => False) g.step zok (fun _ _ q => q) fun _ _ q => q
theorem slot_eq : ∀ (env : En) (i : Nat), slot env i = match env[i]? with | some (some s) => some s | _ => none
  | [], _ => by simp [slot]
  | x :: _, 0 => by cases x <;> simp [slot]
  | _ :: r, i + 1 => by simpa [slot] using slot_eq r i
theorem slot_set {env : En} {i j : Nat} {s : Option Sv} (h : i < env.length) : slot (env.set i s) j = if i = j then s else slot env j := by
  rw [slot_eq, slot_eq]
  by_cases e : i = j
  · subst e
    rw [if_pos rfl, List.getElem?_set_self h]
    cases s <;> rfl
  · rw [if_neg e, List.getElem?_set_ne e]
theorem slot_lt {env : En} {i : Nat} {s : Sv} (h : slot env i = some s) : i < env.length := by
  rw [slot_eq] at h
  cases q : env[i]? with
  | none => rw [q] at h; cases h
  | some x => exact (List.getElem?_eq_some_iff.mp q).1
/-- a slot is given another thing, by another value -/
theorem Rel.put {i : Nat} {s : Sv} {v : V} {f : List Addr} (r : Rel K H Z env σ fp) (hi : i < env.length) (h : SvR K H Z s v f) (hf : ∀ a ∈ f, ∀ j, j ≠ i → a ∉ fp j) :
    Rel K H Z (env.set i (some s)) (σ.set i (some v)) (fun j => if j = i then f else fp j) where
  at_ := fun j t e => by
    rw [slot_set hi] at e
    by_cases q : i = j
    · subst q
      rw [if_pos rfl] at e
      cases e
      exact ⟨v, List.getElem?_set_self (by rw [← r.len]; exact hi), by rw [if_pos rfl]; exact h⟩
    · rw [if_neg q] at e
      obtain ⟨u, h1, h2⟩ := r.at_ j t e
      exact ⟨u, by rw [List.getElem?_set_ne q]; exact h1, by rw [if_neg (Ne.symm q)]; exact h2⟩
  no_ := fun j e => by
    rw [slot_set hi] at e
    by_cases q : i = j
    · rw [if_pos q] at e; cases e
    · rw [if_neg q] at e
      rw [if_neg (Ne.symm q)]
      exact r.no_ j e
  dj := fun j k a h1 h2 => by
    by_cases ej : j = i
    · rw [if_pos ej] at h1
      by_cases ek : k = i
      · rw [ej, ek]
      · rw [if_neg ek] at h2
        exact absurd h2 (hf a h1 k ek)
    · rw [if_neg ej] at h1
      by_cases ek : k = i
      · rw [if_pos ek] at h2
        exact absurd h1 (hf a h2 j ej)
      · rw [if_neg ek] at h2
        exact r.dj j k a h1 h2
  len := by rw [List.length_set, List.length_set]; exact r.len
  zs := r.zs
/-- the same value, told otherwise -/
theorem Rel.put' {i : Nat} {s : Sv} {v : V} {f : List Addr} (r : Rel K H Z env σ fp) (hi : i < env.length) (hv : σ[i]? = some (some v)) (h : SvR K H Z s v f) (hf : ∀ a ∈ f, ∀ j, j ≠ i → a ∉ fp j) :
    Rel K H Z (env.set i (some s)) σ (fun j => if j = i then f else fp j) := by
  have q := r.put hi h hf
  have e : σ.set i (some v) = σ := by
    apply List.ext_getElem?
    intro j
    by_cases ej : i = j
    · subst ej
      rw [List.getElem?_set_self (by rw [← r.len]; exact hi), hv]
    · rw [List.getElem?_set_ne ej]
  rwa [e] at q
/-- a slot is forgotten -/
theorem Rel.drop {i : Nat} {x : Option V} (r : Rel K H Z env σ fp) (hi : i < env.length) : Rel K H Z (env.set i none) (σ.set i x) (fun j => if j = i then [] else fp j) where
  at_ := fun j t e => by
    rw [slot_set hi] at e
    by_cases q : i = j
    · rw [if_pos q] at e; cases e
    · rw [if_neg q] at e
      obtain ⟨u, h1, h2⟩ := r.at_ j t e
      exact ⟨u, by rw [List.getElem?_set_ne q]; exact h1, by rw [if_neg (Ne.symm q)]; exact h2⟩
  no_ := fun j e => by
    rw [slot_set hi] at e
    by_cases q : i = j
    · rw [if_pos q.symm]
    · rw [if_neg q] at e
      rw [if_neg (Ne.symm q)]
      exact r.no_ j e
  dj := fun j k a h1 h2 => by
    by_cases ej : j = i
    · rw [if_pos ej] at h1; simp at h1
    · by_cases ek : k = i
      · rw [if_pos ek] at h2; simp at h2
      · rw [if_neg ej] at h1
        rw [if_neg ek] at h2
        exact r.dj j k a h1 h2
  len := by rw [List.length_set, List.length_set]; exact r.len
  zs := r.zs
end

/-! ### what a term gives -/
def RvR (K : PySem.W.Frag) (H : Hp) (Z : Addr → Prop) (env : En) (σ : St) : Rv → V → List Addr → Prop
  | .dat d, v, f => Rp K H Z v d ∧ f = []
  | .tl ds, v, f => SvR K H Z (.lst ds) v f
  | .td kvs, v, f => SvR K H Z (.dct kvs) v f
  | .tt kvs, v, f => SvR K H Z (.dtt kvs) v f
  | .plc i, v, f => σ[i]? = some (some v) ∧ (∃ s, slot env i = some s) ∧ f = []
/-- the data that is to be read there -/
def Vw (K : PySem.W.Frag) (H : Hp) (Z : Addr → Prop) (v : V) : D → Prop
  | .list ds => ∃ a xs, v = .ref a ∧ SqL K H a xs ∧ RpAll K H Z xs ds
  | .dict kvs => ∃ a ws, v = .ref a ∧ H a = some (.dK ws) ∧ KvR K H Z ws kvs
  | d => Rp K H Z v d
section
variable {K : PySem.W.Frag} {H H' : Hp} {Z Z' O O' : Addr → Prop} {env : En} {σ : St} {fp : Nat → List Addr}
theorem Rp.vw {v : V} {d : D} (r : Rp K H Z v d) : Vw K H Z v d := by
  cases d with
  | list ds =>
    cases r with
    | lst _ r a => exact ⟨_, _, rfl, .inl r, a⟩
    | slst r a => exact ⟨_, _, rfl, r H, a⟩
  | dict _ => cases r
  | none => exact r
  | bool _ => exact r
  | int _ => exact r
  | str _ => exact r
  | tuple _ => exact r
theorem SvR.vw {s : Sv} {v : V} {f : List Addr} (r : SvR K H Z s v f) (nt : ∀ kvs, s ≠ .dtt kvs ∧ s ≠ .fdc kvs) : Vw K H Z v s.view := by
  cases s with
  | dtt kvs => exact absurd rfl (nt kvs).1
  | dat d => exact r.1.vw
  | lst ds =>
    obtain ⟨a, vs, rfl, rfl, e, h, nz⟩ := r
    exact ⟨a, vs, rfl, .of e, h⟩
  | dct _ =>
    obtain ⟨a, vs, rfl, rfl, e, h, nz⟩ := r
    exact ⟨a, vs, rfl, e, h⟩
  | fdc kvs => exact absurd rfl (nt kvs).2
theorem RvR.vw {r : Rv} {v : V} {f : List Addr} {d : D} (q : RvR K H Z env σ r v f) (R : Rel K H Z env σ fp) (h : vw env r = some d) : Vw K H Z v d := by
  cases r with
  | dat e =>
    have h : some e = some d := h
    cases h
    exact q.1.vw
  | tl ds =>
    have h : some (PyData.list ds) = some d := h
    cases h
    exact SvR.vw (s := .lst ds) q fun _ => ⟨nofun, nofun⟩
  | td kvs =>
    have h : some (PyData.dict kvs) = some d := h
    cases h
    exact SvR.vw (s := .dct kvs) q fun _ => ⟨nofun, nofun⟩
  | tt kvs => cases h
  | plc i =>
    obtain ⟨hv, ⟨s, hs⟩, rfl⟩ := q
    have nt1 : ∀ kvs, s ≠ .dtt kvs := fun kvs e => by
      subst e
      unfold Rf.vw at h
      simp only [hs] at h
      cases h
    have nt2 : ∀ kvs, s ≠ .fdc kvs := fun kvs e => by
      subst e
      unfold Rf.vw at h
      simp only [hs] at h
      cases h
    have nt : ∀ kvs, s ≠ .dtt kvs ∧ s ≠ .fdc kvs := fun kvs => ⟨nt1 kvs, nt2 kvs⟩
    have h : some s.view = some d := by
      unfold Rf.vw at h
      simp only [hs] at h
      cases s with
      | dtt kvs => exact absurd rfl (nt kvs).1
      | fdc kvs => exact absurd rfl (nt kvs).2
      | _ => exact h
    cases h
    obtain ⟨u, h1, h2⟩ := R.at_ i s hs
    rw [hv] at h1
    cases h1
    exact h2.vw nt
theorem Vw.dp {v : V} {d : D} (r : Vw K H Z v d) (nd : isDct d = false) : Dp K H v d := by
  cases d with
  | list ds =>
    obtain ⟨a, xs, rfl, h, q⟩ := r
    exact .lst h q.dp
  | dict _ => cases nd
  | none => exact Rp.dp r
  | bool _ => exact Rp.dp r
  | int _ => exact Rp.dp r
  | str _ => exact Rp.dp r
  | tuple _ => exact Rp.dp r
theorem Vw.can {v : V} {d : D} (r : Vw K H Z v d) (nd : isDct d = false) : d.canLay0 = true := by
  cases d with
  | list ds =>
    obtain ⟨a, xs, rfl, h, q⟩ := r
    exact q.can
  | dict _ => cases nd
  | none => exact Rp.can r
  | bool _ => exact Rp.can r
  | int _ => exact Rp.can r
  | str _ => exact Rp.can r
  | tuple _ => exact Rp.can r
theorem Vw.tup {v : V} {ds : List D} (r : Vw K H Z v (.tuple ds)) : ∃ a xs, v = .ref a ∧ SqT K H a xs ∧ RpAll K H Z xs ds := by
  cases r with
  | tup _ z _ r a => exact ⟨_, _, rfl, .inl (tpl_rd r), a⟩
  | stup _ r a => exact ⟨_, _, rfl, r H, a⟩
/-- a thing that stands by itself is kept while another term is reckoned -/
theorem RvR.step {r : Rv} {v : V} {f : List Addr} {env1 : En} (q : RvR K H Z env σ r v f) (st : Step H Z O H' Z' O') (hzo : ∀ a, Z a → ¬ O a) (hf : ∀ a ∈ f, ¬ O a)
    (hs : ∀ i, (slot env i).isSome → (slot env1 i).isSome) : RvR K H' Z' env1 σ r v f := by
  cases r with
  | dat e => exact ⟨q.1.step st hzo, q.2⟩
  | tl ds => exact SvR.step (s := .lst ds) q st hzo hf
  | td kvs => exact SvR.step (s := .dct kvs) q st hzo hf
  | tt kvs => exact SvR.step (s := .dtt kvs) q st hzo hf
  | plc i =>
    obtain ⟨hv, ⟨s, h⟩, rfl⟩ := q
    have := hs i (by rw [h]; rfl)
    cases q2 : slot env1 i with
    | none => rw [q2] at this; cases this
    | some s' => exact ⟨hv, ⟨s', q2⟩, rfl⟩
end
end Rf
end

-- text RfCt
section
set_option Elab.async false
set_option linter.all false
set_option maxRecDepth 100000
set_option maxHeartbeats 1000000
/-! RfCt: new tuples, told with their objects. -/
namespace Rf
open PySem PySem.Spec PyProof.Rows L2
/-- whatever a new tuple is told as -/
def NewT (H : Hp) (fz : Bool) (xs : List V) (Q : VK) : Prop := ∀ (p : Addr) (o : Obj), H p = none → o.dict = none → Q (.ref p) (upd H p (tpl fz o xs))
theorem tpl_ok {P : Program} {w : World} {H : Hp} {h : Heap} {a : Addr} {fz : Bool} {o : Obj} {xs : List V} {its : List Value} (hz : xs.length ≤ sizeLine) (r : Vals xs its) (e : h.get? a = some o) (hc : o.cls = .type "tuple") (hd : ∃ n, o.data = .seq its.toArray n) : ObjOk P w H h a (tpl fz o xs) := by
  have k : ObjOk P w H h a (.tup xs) := ⟨hz, its, r, o, e, hc, hd⟩
  cases fz with
  | true => exact ⟨e, k⟩
  | false => exact k
section
variable {X : Cx}
/-- a new tuple stands behind the heap -/
theorem new_tpl {pins : List (Addr × Obj)} {σ : L2.St} {H : Hp} {s : Shared} {fz : Bool} {xs : List V} {its : List Value} {Q : VK} {h' : Heap} {tk : Nat} {ob : Obj} (J : Inv X pins σ H { s with heap := h' }) (hz : xs.length ≤ sizeLine) (r : Vals xs its) (hc : ob.cls = .type "tuple") (hd : ∃ n, ob.data = .seq its.toArray n) (h0 : ob.dict = none) (q : NewT H fz xs Q) (nf : ob.isFreed = false := by rfl) :
    EP X pins σ Q (.ref h'.objs.size) { s with heap := h'.push ob, toks := tk } :=
  have ge : (h'.push ob).get? h'.objs.size = some ob := Heap.get?_push_size _ nf
  ⟨.ref h'.objs.size, upd H h'.objs.size (tpl fz ob xs), J.laid (t' := tk) (fun _ _ z => Heap.get?_push_of_some _ z) (Nat.le_refl _) (tpl_ok hz r ge hc hd), rfl, q _ _ (J.hok.fresh (Nat.le_refl _)) h0⟩
theorem pe_tupZ {es : List Expr} {t : TA} {kk : Nat} {pos : Pos} (h : PA X es t) : PE X (.Tuple es kk pos) (fun σ H Q => t σ H fun xs H1 => xs.length ≤ sizeLine ∧ ∃ fz, NewT H1 fz xs Q) :=
  ⟨fun pins s σ H Q I hq => wpAny_Tuple_spliced (thn (h.run pos pins s σ H _ I hq) fun us s1 ⟨xs, H1, I1, r, z, fz, q⟩ => ⟨by rw [← r.length]; exact z, new_tpl (s := s1) (tk := s1.toks) I1 z r rfl ⟨0, by simp⟩ rfl q⟩)⟩
theorem call_tupleZ : CallR X (.type "tuple") (fun xs H Q => ∃ p ys, xs = [.ref p] ∧ ((SqL X.K H p ys ∧ ∃ fz, NewT H fz ys Q) ∨ (SqT X.K H p ys ∧ Q (.ref p) H))) := by
  intro pins s σ H xs us Q I r h
  obtain ⟨p, ys, rfl, h⟩ := h
  obtain ⟨u, rfl, ru⟩ := vals1 r
  cases ru
  rcases h with ⟨hl, fz, q⟩ | ⟨ht, q⟩
  · obtain ⟨its, rv, pl, hz⟩ := I.list hl
    exact call_tuple_list pl.isList (fun h' kp => new_tpl (s := s) (tk := s.toks) (I.kept (t' := s.toks) kp) hz rv rfl ⟨0, rfl⟩ rfl q) (by have := rv.length; simp only [List.size_toArray]; omega)
  · obtain ⟨its, _, pl, _⟩ := I.tuple ht
    exact call_tuple_same pl ⟨.ref p, H, I, rfl, q⟩
/-- t[lo:hi] -/
theorem sl_tupZ : SlR X (fun x lo hi H Q => ∃ a xs, x = .ref a ∧ SqT X.K H a xs ∧ (HT.sIx xs.length 0 lo = 0 ∧ HT.sIx xs.length xs.length hi = xs.length → Q (.ref a) H) ∧ (¬ (HT.sIx xs.length 0 lo = 0 ∧ HT.sIx xs.length xs.length hi = xs.length) → ∃ fz, NewT H fz (cutV xs lo hi) Q)) := by
  intro pins s σ H x v vl vu lo hi sl Q I rx hs pl pu h
  obtain ⟨a, xs, rfl, hx, q1, q2⟩ := h
  by_cases hw : HT.sIx xs.length 0 lo = 0 ∧ HT.sIx xs.length xs.length hi = xs.length
  · exact sl_tupA pins s σ H _ v vl vu lo hi sl Q I rx hs pl pu ⟨a, xs, rfl, hx, q1, fun n => absurd hw n⟩
  · obtain ⟨fz, q⟩ := q2 hw
    cases rx
    obtain ⟨its, rv, ht, hz⟩ := I.tuple hx
    have hn : its.toArray.size = xs.length := by have := rv.length; simp; omega
    refine ⟨"tuple", _, PyProof.Rows.slot_tuple_getitem.lookup, ht.typeIs, HT.getItem_tuple_cut ht hs pl pu (by rw [hn]; exact hw) ?_ (by rw [hn]; exact hz)⟩
    rw [hn]
    exact new_tpl (s := s) (tk := s.toks) (xs := cutV xs lo hi) I (Nat.le_trans (cutV_length xs lo hi) hz) ((rv.drop _).take _) rfl ⟨0, rfl⟩ rfl q
/-- t + u -/
theorem op_catZ : OpR X (binaryOp .Add) (fun x y H Q => ∃ a b xs ys, x = .ref a ∧ y = .ref b ∧ SqT X.K H a xs ∧ SqT X.K H b ys ∧ xs.length + ys.length ≤ sizeLine ∧ (xs = [] → Q (.ref b) H) ∧ (xs ≠ [] → ys = [] → Q (.ref a) H) ∧ (xs ≠ [] → ys ≠ [] → ∃ fz, NewT H fz (xs ++ ys) Q)) := by
  intro pins s σ H x y v u Q I rx ry h
  obtain ⟨a, b, xs, ys, rfl, rfl, ha, hb, hz, q0, q1, q2⟩ := h
  by_cases hw : xs ≠ [] ∧ ys ≠ []
  · obtain ⟨fz, q⟩ := q2 hw.1 hw.2
    cases rx; cases ry
    obtain ⟨its, r1, p1, _⟩ := I.tuple ha
    obtain ⟨its2, r2, p2, _⟩ := I.tuple hb
    exact HT.cat_tup p1 p2 (fun z => hw.1 (r1.nil_iff.mp z)) (fun z => absurd (r2.nil_iff.mp z) hw.2) (fun z => new_tpl (s := s) (tk := s.toks) (xs := xs ++ ys) I (by rw [List.length_append]; exact hz) (r1.append r2) rfl ⟨0, rfl⟩ rfl q) (by have := r1.length; have := r2.length; omega)
  · exact op_catA pins s σ H _ _ v u Q I rx ry ⟨a, b, xs, ys, rfl, rfl, ha, hb, hz, q0, q1, fun n1 n2 => absurd ⟨n1, n2⟩ hw⟩
/-- t * k -/
theorem op_repZ : OpR X (binaryOp .Mult) (fun x y H Q => ∃ a k xs, x = .ref a ∧ y = .int k ∧ SqT X.K H a xs ∧ xs ≠ [] ∧ 2 ≤ k ∧ k ≤ 1000 ∧ xs.length ≤ 1000 ∧ ∃ fz, NewT H fz (List.replicate k.toNat xs).flatten Q) := by
  intro pins s σ H x y v u Q I rx ry h
  obtain ⟨a, k, xs, rfl, rfl, ha, hne, k2, k3, hl, fz, q⟩ := h
  cases rx
  obtain ⟨t, rfl⟩ := ry
  obtain ⟨its, r, ⟨⟨cl, di, da, so⟩, ho, hc, n, hd⟩, hs⟩ := I.tuple ha
  simp only at hc hd
  subst hc hd
  have el := r.length
  have e0 : its.toArray.isEmpty = false := by
    cases its with
    | nil => cases r; exact absurd rfl hne
    | cons _ _ => rfl
  have prod : k.toNat * xs.length ≤ 1000000 := Nat.mul_le_mul (show k.toNat ≤ 1000 by omega) hl
  have e1 : ((its.toArray.size : Nat) : Int) * k = ((k.toNat * xs.length : Nat) : Int) := by
    rw [List.size_toArray, ← el, Int.mul_comm, Int.natCast_mul, Int.toNat_of_nonneg (by omega)]
  have big : (1000000 : Nat) ≤ sizeLine := by rw [sizeLine_eq]; decide
  have lenF : (List.replicate k.toNat its).flatten.length ≤ sizeLine := by
    rw [PyProof.Rows.lm_len_rep_flat, ← el]; omega
  have d0 : (decide (k < -(2 ^ 63)) || decide (k ≥ 2 ^ 63)) = false := by
    simp only [Bool.or_eq_false_iff, decide_eq_false_iff_not]; omega
  have d1 : (its.toArray.isEmpty || k == 1) = false := by
    rw [e0]; simp; omega
  have d2 : (decide (k ≤ 0) || its.toArray.isEmpty) = false := by
    rw [e0]; simp; omega
  have d3 : Builtin.Tuple.tupleTooMany (((its.toArray.size : Nat) : Int) * k) = false := by
    unfold Builtin.Tuple.tupleTooMany
    rw [e1, sizeLine_eq]
    simp only [decide_eq_false_iff_not]; omega
  refine wpAny_binaryOp_repeat_ref (T := "tuple") (U := "int") (by decide) ⟨_, ho, rfl⟩ (fun s' => typeIs_int s' k t) noFill_tuple_mul F.fills_int_mul F.slot_int_rmul repeat_tuple F.slot_int_index.lookup (call_meets F.slot_int_rmul (typeIs_int s k t) F.entry_int_rmul (F.args_int_rmul_2 _ _) (int_rmul_tuple k t a its.toArray n di so) ⟨ho, rfl, ⟨_, ho, rfl⟩, call_meets F.slot_tuple_mul ⟨_, ho, rfl⟩ F.entry_tuple_mul (F.args_tuple_mul_2 _ _) (tuple_mulW a its.toArray n di so k t d0 d1 d2 (by omega) d3 (by rw [size_rep, List.size_toArray]; exact lenF)) ⟨ho, ?_⟩⟩)
  rw [size_rep]
  exact new_tpl (s := s) (tk := s.toks) I (by rw [PyProof.Rows.lm_len_rep_flat]; omega) (r.rep k.toNat) rfl ⟨0, rfl⟩ rfl q
end
end Rf
end

-- text RfC
section
set_option Elab.async false
set_option linter.all false
set_option maxRecDepth 100000
set_option maxHeartbeats 1000000
/-! RfC: the operations over data. -/
namespace Rf
open PySem PySem.Spec PyProof.Rows L2

/-- what is wanted of a value that an operation gives -/
def PostR (K : PySem.W.Frag) (H : Hp) (Z : Addr → Prop) (Q : VK) : Rv → Prop
  | .dat d => ∀ v H' Z', Grow H Z H' Z' → Zok H' Z' → Rp K H' Z' v d → Q v H'
  | .tl ds => ∀ a vs H' Z', Grow H Z H' Z' → Zok H' Z' → H a = none → H' a = some (.lst vs) → RpAll K H' Z' vs ds → ¬ Z' a → Q (.ref a) H'
  | _ => False
def r2D (K : PySem.W.Frag) (f : D → D → Option Rv) : R2 := fun x y H Q => ∃ Z dx dy r, Zok H Z ∧ Vw K H Z x dx ∧ Vw K H Z y dy ∧ f dx dy = some r ∧ PostR K H Z Q r
inductive VwAll (K : PySem.W.Frag) (H : Hp) (Z : Addr → Prop) : List V → List D → Prop
  | nil : VwAll K H Z [] []
  | cons {v : V} {vs : List V} {d : D} {ds : List D} : Vw K H Z v d → VwAll K H Z vs ds → VwAll K H Z (v :: vs) (d :: ds)
def rnD (K : PySem.W.Frag) (f : List D → Option Rv) : List V → Hp → VK → Prop := fun vs H Q => ∃ Z ds r, Zok H Z ∧ VwAll K H Z vs ds ∧ f ds = some r ∧ PostR K H Z Q r

section
variable {K : PySem.W.Frag} {H : Hp} {Z : Addr → Prop} {Q : VK}
theorem PostR.int {i : Int} (z : Zok H Z) (q : PostR K H Z Q (.dat (.int i))) : Q (.int i) H := q _ H Z .refl z (.int i)
theorem PostR.bl {b : Bool} (z : Zok H Z) (q : PostR K H Z Q (.dat (.bool b))) : Q (.bl b) H := q _ H Z .refl z (.bl b)
theorem PostR.non (z : Zok H Z) (q : PostR K H Z Q (.dat .none)) : Q .non H := q _ H Z .refl z .non
theorem PostR.str {x : Str} (z : Zok H Z) (h : StrFit x) (q : PostR K H Z Q (.dat (.str x))) : Q (.str x) H := q _ H Z .refl z (.str x h)
theorem PostR.old {v : V} {d : D} (z : Zok H Z) (h : Rp K H Z v d) (q : PostR K H Z Q (.dat d)) : Q v H := q _ H Z .refl z h
theorem PostR.tup {xs : List V} {ds : List D} (z : Zok H Z) (h : RpAll K H Z xs ds) (q : PostR K H Z Q (.dat (.tuple ds))) : NewT H (cleanB ds) xs Q := fun p o n ho =>
  q _ _ _ (.newZ n) z.newZ (.tup o (.inr rfl) ho upd_same (h.grow (.newZ n)))
theorem PostR.lst {xs : List V} {ds : List D} (z : Zok H Z) (h : RpAll K H Z xs ds) (q : PostR K H Z Q (.tl ds)) : ∀ p, H p = none → Q (.ref p) (upd H p (.lst xs)) := fun p n =>
  q p xs _ Z (.new n) z.upd n upd_same (h.grow (.new n)) fun zp => z p zp n
end

theorem sizeOk_le {n : Nat} (h : sizeOk n = true) : n ≤ sizeLine := by
  have := of_decide_eq_true h
  rw [sizeLine_eq]
  exact this
theorem StrFit.append {x y : Str} (hx : StrFit x) (hy : StrFit y) (h : x.length + y.length ≤ sizeLine) : StrFit (x ++ y) := by
  have e : (x ++ y).cps = x.cps ++ y.cps := rfl
  refine ⟨?_, ?_⟩
  · show (x ++ y).cps.size ≤ sizeLine
    rw [e, Array.size_append]
    exact h
  · unfold PyData.strOk
    rw [e, Array.all_append]
    simp only [Bool.and_eq_true]
    exact ⟨hx.2, hy.2⟩
theorem StrFit.one {x : Str} {c : Nat} (h : StrFit x) (hc : c ∈ x.cps.toList) : StrFit ⟨#[c]⟩ := by
  refine ⟨?_, ?_⟩
  · show 1 ≤ sizeLine
    rw [sizeLine_eq]; decide
  · have := h.2
    unfold PyData.strOk at this ⊢
    rw [Array.all_eq_true'] at this
    have q := this c (by simpa using hc)
    simpa using q

/-! ### lists and tuples whatever else their objects bear -/
theorem list_addG (l : Addr) (items : Array Value) (n : Nat) (dd : Option Addr) (sl : Array (Option Value)) (b : Addr) (items2 : Array Value) (n2 : Nat) (dd2 : Option Addr) (sl2 : Array (Option Value)) (hc0 : items.size + items2.size ≤ sizeLine) :
    Meets (Builtin.«list.__add__» ⟨[.ref l, .ref b], []⟩) (fun _ R s => s.heap.get? l = some { cls := .type "list", dict := dd, data := .seq items n, slots := sl } ∧ s.heap.get? b = some { cls := .type "list", dict := dd2, data := .seq items2 n2, slots := sl2 } ∧ R (.ok (.ret (Value.ref s.heap.objs.size))) { s with heap := s.heap.push { cls := Value.type "list", data := Data.seq (items ++ items2) }, toks := s.toks }) :=
  .of_wp fun prog w A R s h => by obtain ⟨hp, g, d, tk, os⟩ := s; obtain ⟨hl, hb, h⟩ := h; have f1 := AutoSeq1.idx_int; have f2 := AutoSeq1.sub_tuple_tuple; have f3 := AutoSeq1.sub_list_list; have f4 := AutoSeq1.sub_tuple_list; have f5 := AutoSeq1.sub_list_tuple; wp_walk using wpAny_loadPart' hl, wpAny_loadPart' hb; exact ⟨_, rfl, h⟩
theorem tuple_mulOne (l : Addr) (items : Array Value) (n : Nat) (dd : Option Addr) (sl : Array (Option Value)) (x : Int) (u : Tok) (c0 : (decide (x < -(2 ^ 63)) || decide (x ≥ 2 ^ 63)) = false) (c1 : (items.isEmpty || x == 1) = true) :
    Meets (Builtin.«tuple.__mul__» ⟨[.ref l, .int x u], []⟩) (fun _ R s => s.heap.get? l = some { cls := .type "tuple", dict := dd, data := .seq items n, slots := sl } ∧ R (.ok (.ret (Value.ref l))) s) :=
  .of_wp fun prog w A R s h => by
    obtain ⟨hp, g, d, tk, os⟩ := s
    obtain ⟨hl, h⟩ := h
    have f1 := AutoSeq1.idx_int
    wp_walk using wpAny_loadPart' hl
    refine wpAny_ite_false (decide_eq_false (by rw [c0]; exact Bool.false_ne_true)) ?_; wp_walk using wpAny_loadPart' hl
    exact ⟨_, rfl, h⟩
theorem foldl_apps {α : Type} (z : Array α) : ∀ (n : Nat) (acc : Array α), ((List.replicate n z).foldl (· ++ ·) acc).toList = acc.toList ++ (List.replicate n z.toList).flatten
  | 0, acc => by simp
  | n + 1, acc => by
    rw [List.replicate_succ, List.foldl_cons, foldl_apps z n, List.replicate_succ, List.flatten_cons, Array.toList_append, List.append_assoc]
theorem mul_signs {z : Str} {k : Int} (h : 0 ≤ k) : (Txt.mul z k).cps.toList = (List.replicate k.toNat z.cps.toList).flatten := by
  unfold Txt.mul
  by_cases h1 : k < 1
  · have : k = 0 := by omega
    subst this
    rfl
  · rw [if_neg h1]
    by_cases h2 : (k == 1 || z.length == 0) = true
    · rw [if_pos h2]
      rcases Bool.or_eq_true_iff.mp h2 with h2 | h2
      · have : k = 1 := by simpa using h2
        subst this
        simp
      · have : z.cps.size = 0 := by simpa [Str.length] using h2
        have : z.cps.toList = [] := by simpa using this
        rw [this]; simp
    · rw [if_neg h2]
      simpa using foldl_apps z.cps k.toNat #[]
theorem strOk_iff {x : Str} : PyData.strOk x = true ↔ ∀ c ∈ x.cps.toList, c < 0x110000 := by
  unfold PyData.strOk
  rw [← Array.all_toList, List.all_eq_true]
  simp
theorem fit_mul {z : Str} {k : Int} (h : 0 ≤ k) (h2 : k ≤ 1000) (h3 : z.length ≤ 1000) (f : StrFit z) : StrFit (Txt.mul z k) := by
  have e := mul_signs (z := z) h
  constructor
  · have hl : (Txt.mul z k).length = k.toNat * z.length := by
      have := congrArg List.length e
      simpa [Str.length] using this
    have : k.toNat * z.length ≤ 1000 * 1000 := Nat.mul_le_mul (by omega) h3
    rw [hl]
    exact Nat.le_trans this (by decide)
  · rw [strOk_iff, e]
    intro c hc
    obtain ⟨l, hl, hc⟩ := List.mem_flatten.mp hc
    rw [(List.mem_replicate.mp hl).2] at hc
    exact strOk_iff.mp f.2 c hc
theorem fit_cut {z : Str} {lo hi : Option Int} (f : StrFit z) : StrFit (cutS z lo hi) := by
  refine ⟨Nat.le_trans (cutS_length z lo hi) f.1, strOk_iff.mpr fun c hc => strOk_iff.mp f.2 c ?_⟩
  exact List.mem_of_mem_drop (List.mem_of_mem_take hc)
theorem fit_one {z : Str} {c : Nat} (f : StrFit z) (h : c ∈ z.cps.toList) : StrFit ⟨#[c]⟩ := by
  refine ⟨by show 1 ≤ sizeLine; decide, strOk_iff.mpr fun d hd => ?_⟩
  have : d = c := by simpa using hd
  rw [this]
  exact strOk_iff.mp f.2 c h
theorem rp_chars {K : PySem.W.Frag} {H : Hp} {Z : Addr → Prop} {z : Str} (f : StrFit z) : RpAll K H Z (z.cps.toList.map fun c => V.str ⟨#[c]⟩) (z.cps.toList.map fun c => .str ⟨#[c]⟩) := by
  have : ∀ l : List Nat, (∀ c ∈ l, c ∈ z.cps.toList) → RpAll K H Z (l.map fun c => V.str ⟨#[c]⟩) (l.map fun c => .str ⟨#[c]⟩) := by
    intro l
    induction l with
    | nil => intro _; exact .nil
    | cons c l ih => intro h; exact .cons (.str _ (fit_one f (h c (by simp)))) (ih fun d hd => h d (by simp [hd]))
  exact this _ fun _ h => h
theorem vals_chars {z : Str} {acc : Array Value} (h : ItemsOf (SignAt z) acc z.cps.size) : Vals (z.cps.toList.map fun c => V.str ⟨#[c]⟩) acc.toList := by
  have key : ∀ (l : List Nat) (us : List Value), us.length = l.length → (∀ (j : Nat) (u : Value), us[j]? = some u → ∃ (c : Nat) (t : Tok), l[j]? = some c ∧ u = Value.str ⟨#[c]⟩ t) → Vals (l.map fun c => V.str ⟨#[c]⟩) us := by
    intro l
    induction l with
    | nil =>
      intro us hl _
      cases us with
      | nil => exact .nil
      | cons _ _ => simp at hl
    | cons c l ih =>
      intro us hl hj
      cases us with
      | nil => simp at hl
      | cons u us =>
        obtain ⟨d, t, e1, e2⟩ := hj 0 u rfl
        cases e1
        exact .cons ⟨t, e2⟩ (ih us (by simpa using hl) fun j w hw => hj (j + 1) w hw)
  refine key _ _ (by simpa using h.1) fun j u hu => ?_
  obtain ⟨c, t, hc, rfl⟩ := h.2 j u (by simpa using hu)
  exact ⟨c, t, by simpa using hc, rfl⟩
section
variable {X : Cx}
/-! ### operators -/
theorem op_binD (o : Operator) : OpR X (binaryOp o) (r2D X.K (binD o)) := by
  intro pins s σ H x y v u Q I rx ry h
  obtain ⟨Z, dx, dy, r, z, hx, hy, e, q⟩ := h
  unfold binD at e
  split at e
  · cases e; cases hx; cases hy
    exact op_add pins s σ H _ _ v u Q I rx ry ⟨_, _, rfl, rfl, q.int z⟩
  · split at e
    · rename_i hs
      cases e; cases hx with | str _ fx => cases hy with | str _ fy =>
      have hl := sizeOk_le hs
      exact op_add_str pins s σ H _ _ v u Q I rx ry ⟨_, _, rfl, rfl, hl, q.str z (fx.append fy hl)⟩
    · cases e
  · split at e
    · rename_i hs
      cases e
      obtain ⟨a, xs, rfl, ha, ra⟩ := hx.tup
      obtain ⟨b, ys, rfl, hb, rb⟩ := hy.tup
      refine op_catZ pins s σ H _ _ v u Q I rx ry ⟨a, b, xs, ys, rfl, rfl, ha, hb, ?_, ?_, ?_, ?_⟩
      · rw [ra.length, rb.length]; exact sizeOk_le hs
      · intro e; subst e; cases ra; exact q.old z hy
      · intro _ e; subst e; cases rb; rw [List.append_nil] at q; exact q.old z hx
      · intro _ _; exact ⟨_, q.tup z (ra.append rb)⟩
    · cases e
  · split at e
    · rename_i hs
      cases e
      obtain ⟨a, xs, rfl, ha, ra⟩ := hx
      obtain ⟨b, ys, rfl, hb, rb⟩ := hy
      cases rx; cases ry
      obtain ⟨its, r1, p1, _⟩ := I.list ha
      obtain ⟨its2, r2, p2, _⟩ := I.list hb
      have hl : xs.length + ys.length ≤ sizeLine := by rw [ra.length, rb.length]; exact sizeOk_le hs
      have hl2 : its.length + its2.length ≤ sizeLine := by rw [← r1.length, ← r2.length]; exact hl
      obtain ⟨⟨cl, dd, da, sl⟩, n1, h1, c1, d1, e1⟩ := p1
      obtain ⟨⟨cl2, dd2, da2, sl2⟩, n2, h2, c2, d2, e2⟩ := p2
      simp only at c1 e1 c2 e2
      subst c1 e1 c2 e2
      refine concat_meets ⟨_, h1, rfl⟩ ⟨_, h2, rfl⟩ PySem.noFill_list_add PySem.seq_list_add F.slot_list_add F.entry_list_add (F.args_list_add_2 _ _) (list_addG _ _ _ _ _ _ _ _ _ _ ?_) ⟨h1, h2, ?_⟩
      rotate_left
      · have new : Inv X pins σ (upd H s.heap.objs.size (.lst (xs ++ ys))) _ := I.lnew (its := its ++ its2) (t' := s.toks) (r1.append r2) (by rw [List.length_append]; exact hl)
        have := q.lst z (ra.append rb) s.heap.objs.size I.fresh
        refine ⟨.ref s.heap.objs.size, _, ?_, rfl, this⟩
        simpa using new
      · simpa using hl2
    · cases e
  · cases e; cases hx; cases hy
    exact op_sub pins s σ H _ _ v u Q I rx ry ⟨_, _, rfl, rfl, q.int z⟩
  · split at e
    · rename_i hm
      cases e; cases hx; cases hy
      refine op_mul pins s σ H _ _ v u Q I rx ry ⟨_, _, rfl, rfl, ?_, q.int z⟩
      unfold mulOk at hm
      simp only [Bool.or_eq_true, Bool.and_eq_true, decide_eq_true_eq] at hm
      exact hm
    · cases e
  · split at e
    · rename_i hm
      cases e
      simp only [Bool.and_eq_true, decide_eq_true_eq] at hm
      obtain ⟨a, xs, rfl, ha, ra⟩ := hx.tup
      cases hy
      rename_i k
      have hl := ra.length
      by_cases h2 : xs ≠ [] ∧ 2 ≤ k
      · exact op_repZ pins s σ H _ _ v u Q I rx ry ⟨a, k, xs, rfl, rfl, ha, h2.1, h2.2, hm.1.2, by omega, _, q.tup z (ra.rep _)⟩
      · cases rx
        obtain ⟨t, rfl⟩ := ry
        obtain ⟨its, r, ⟨⟨cls, dd, data, sl⟩, ho, hc, n, hd⟩, hs⟩ := I.tuple ha
        simp only at hc hd
        subst hc hd
        have c0 : (decide (k < -(2 ^ 63)) || decide (k ≥ 2 ^ 63)) = false := by
          rw [decide_eq_false (by omega), decide_eq_false (by omega)] <;> rfl
        have c1 : (its.toArray.isEmpty || k == 1) = true := by
          by_cases e1 : xs = []
          · subst e1
            cases r
            rfl
          · have : k = 1 := by
              have : ¬ 2 ≤ k := fun z => h2 ⟨e1, z⟩
              omega
            subst this
            simp
        refine wpAny_binaryOp_repeat_ref (T := "tuple") (U := "int") (by decide) ⟨_, ho, rfl⟩ (fun s' => typeIs_int s' k t) noFill_tuple_mul F.fills_int_mul F.slot_int_rmul repeat_tuple F.slot_int_index.lookup
          (call_meets F.slot_int_rmul (typeIs_int s k t) F.entry_int_rmul (F.args_int_rmul_2 _ _) (int_rmul_tuple k t a its.toArray n dd sl)
            ⟨ho, rfl, ⟨_, ho, rfl⟩, call_meets F.slot_tuple_mul ⟨_, ho, rfl⟩ F.entry_tuple_mul (F.args_tuple_mul_2 _ _) (tuple_mulOne a its.toArray n dd sl k t c0 c1) ⟨ho, ?_⟩⟩)
        refine ⟨.ref a, H, I, rfl, q.old z ?_⟩
        by_cases e1 : xs = []
        · subst e1
          cases ra
          have : (List.replicate k.toNat ([] : List D)).flatten = [] := by simp
          rw [this]
          exact hx
        · have : k = 1 := by
            have : ¬ 2 ≤ k := fun z => h2 ⟨e1, z⟩
            omega
          subst this
          have hx2 : Rp X.K H Z (V.ref a) _ := hx
          simpa using hx2
    · cases e
  · split at e
    · rename_i hm
      cases e
      simp only [Bool.and_eq_true, decide_eq_true_eq] at hm
      obtain ⟨a, xs, rfl, ha, ra⟩ := hx
      cases hy
      rename_i k
      have hl := ra.length
      cases rx
      obtain ⟨t, rfl⟩ := ry
      obtain ⟨its, r, p1, _⟩ := I.list ha
      obtain ⟨⟨cl, dd, da, sl⟩, n1, h1, c1, d1, e1⟩ := p1
      simp only at c1 e1
      subst c1 e1
      have hle := r.length
      have hz : xs.length * k.toNat ≤ sizeLine := by
        have : xs.length * k.toNat ≤ 1000 * 1000 := Nat.mul_le_mul (by omega) (by omega)
        exact Nat.le_trans this (by decide)
      have hlen : its.toArray.size * k.toNat ≤ sizeLine := by rw [List.size_toArray, ← hle]; exact hz
      have hcap : ¬ its.toArray.size * k.toNat > (2 ^ 63 - 1) / 8 := by
        have : (sizeLine : Nat) ≤ (2 ^ 63 - 1) / 8 := by decide
        omega
      have hfit : ¬ (!Builtin.List.listFitsIndex k) = true := by
        rw [fitsIndex_both (by omega) (by omega)]
        exact Bool.false_ne_true
      have hlong : ¬ Builtin.List.listTooLong (its.toArray.size * k.toNat) = true := by
        rw [notLongL hlen]
        exact Bool.false_ne_true
      have hnew : List.foldl (fun x1 x2 => x1 ++ x2) #[] (List.replicate (if its.toArray.isEmpty = true then 0 else k.toNat) its.toArray) = (List.replicate k.toNat its).flatten.toArray := by
        have f0 : ∀ m : Nat, List.foldl (fun x1 x2 => x1 ++ x2) #[] (List.replicate m its.toArray) = (List.replicate m its).flatten.toArray := fun m => by
          have := foldl_rep its m []
          rw [List.nil_append] at this
          exact this
        rw [f0]
        cases its with
        | nil => simp
        | cons a r' => rw [if_neg (by simp)]
      refine wpAny_binaryOp_repeat_ref (T := "list") (U := "int") (by decide) ⟨_, h1, rfl⟩ (fun s' => typeIs_int s' k t) noFill_list_mul F.fills_int_mul F.slot_int_rmul repeat_list F.slot_int_index.lookup
        (call_meets F.slot_int_rmul (typeIs_int s k t) F.entry_int_rmul (F.args_int_rmul_2 _ _) (lm_int_rmul_list_any k t a its.toArray n1 dd sl)
          ⟨h1, rfl, ⟨_, h1, rfl⟩, call_meets F.slot_list_mul ⟨_, h1, rfl⟩ F.entry_list_mul (F.args_list_mul_2 _ _) (lm_list_mul_any a its.toArray n1 dd sl k t hfit hcap hlong) ⟨h1, ?_⟩⟩)
      rw [hnew]
      exact ⟨.ref _, _, I.lnew (t' := s.toks) (r.rep k.toNat) (by rw [PyProof.Rows.lm_len_rep_flat, Nat.mul_comm]; exact hz), rfl, q.lst z (ra.rep _) _ I.fresh⟩
    · cases e
  · split at e
    · rename_i hm
      cases e
      simp only [Bool.and_eq_true, decide_eq_true_eq] at hm
      cases hx with | str zz f =>
      cases hy
      obtain ⟨t, rfl⟩ := rx
      obtain ⟨t2, rfl⟩ := ry
      rename_i zz k
      have hz : (zz.length : Int) ≤ 1000 := by omega
      have hok : MulOk zz k := by
        refine ⟨?_, fun h1 h2 => ?_, fun h1 h2 => ?_⟩
        · rw [decide_eq_false (by omega), decide_eq_false (by omega)]; rfl
        · have hd : 1000 ≤ (2 ^ 63 - 1) / k := (Int.le_ediv_iff_mul_le (by omega)).mpr (by omega)
          omega
        · have : zz.length * k.toNat ≤ 1000 * 1000 := Nat.mul_le_mul hm.2 (by omega)
          exact decide_eq_false (Nat.not_lt.mpr (Nat.le_trans this (by decide)))
      exact SB.mul hok fun t' n => ⟨.str _, H, I.tok n, ⟨_, rfl⟩, q.str z (fit_mul hm.1.1 hm.1.2 hm.2 f)⟩
    · cases e
  · split at e
    · rename_i hm
      cases e; cases hx; cases hy
      simp only [Bool.and_eq_true, decide_eq_true_eq] at hm
      exact op_fdiv pins s σ H _ _ v u Q I rx ry ⟨_, _, rfl, rfl, hm, q.int z⟩
    · cases e
  · split at e
    · rename_i hm
      cases e; cases hx; cases hy
      exact op_mod pins s σ H _ _ v u Q I rx ry ⟨_, _, rfl, rfl, of_decide_eq_true hm, q.int z⟩
    · cases e
  · cases e
end
end Rf
end

-- text RfC1
section
set_option Elab.async false
set_option linter.all false
set_option maxRecDepth 100000
set_option maxHeartbeats 1000000
/-! RfC1: sorted, min, max of data. -/
namespace Rf
open PySem PySem.Spec PyProof.Rows L2
theorem alikeB_all {xs : List D} (h : alikeB xs = true) : PySem.W.AllAlike xs := fun d hd d' hd' => by
  unfold alikeB at h
  exact List.all_eq_true.mp (List.all_eq_true.mp h d hd) d' hd'
theorem depth_le : ∀ {xs : List D} {d : D}, d ∈ xs → d.depth ≤ PyData.depthAll xs
  | x :: xs, d, h => by
    rw [PyData.depthAll]
    rcases List.mem_cons.mp h with rfl | h
    · omega
    · have := depth_le h; omega
theorem sortable_of {xs : List D} (h : (xs.all tupOk || xs.all othOk) = true) : PySem.W.Sortable xs := by
  rcases Bool.or_eq_true_iff.mp h with h | h
  · refine .inl fun d hd => ?_
    have := List.all_eq_true.mp h d hd
    unfold tupOk at this
    split at this
    · exact ⟨_, _, rfl⟩
    · cases this
  · refine .inr fun d hd => ?_
    have := List.all_eq_true.mp h d hd
    unfold othOk at this
    split at this
    · cases this
    · cases this
    · rename_i n1 n2
      exact ⟨n1, n2⟩
section
variable {X : Cx} {K : PySem.W.Frag} {H : Hp} {Z : Addr → Prop}
/-- a value, and what it is known to stand for -/
def Stn (K : PySem.W.Frag) (H : Hp) (Z : Addr → Prop) (u : Value) (d : D) : Prop := ∃ v, RelV v u ∧ Rp K H Z v d
theorem each_stn : ∀ {vs : List V} {us : List Value} {ds : List D}, RpAll K H Z vs ds → Vals vs us → PySem.W.EachIs (Stn K H Z) us ds
  | _, _, [], r, s => by cases r; cases s; exact .nil
  | _, _, _ :: _, .cons a r, .cons b s => .cons ⟨_, b, a⟩ (each_stn r s)
theorem stn_each : ∀ {us : List Value} {ds : List D}, PySem.W.EachIs (Stn K H Z) us ds → ∃ vs, Vals vs us ∧ RpAll K H Z vs ds
  | _, _, .nil => ⟨[], .nil, .nil⟩
  | _, _, .cons ⟨v, b, a⟩ r => by
    obtain ⟨vs, h1, h2⟩ := stn_each r
    exact ⟨v :: vs, .cons b h1, .cons a h2⟩
theorem each_reads {h : Heap} : ∀ {us : List Value} {ds : List D} {as : List Addr}, ReadsAll h us ds as → PySem.W.EachIs (fun v d => ∃ as, Reads h v (id d) as) us ds
  | _, [], _, r => by cases r; exact .nil
  | _, d :: ds, _, r => by
    cases r with
    | cons r1 r2 => exact .cons ⟨_, r1⟩ (each_reads r2)
theorem call_sortD (hu : X.A.units + 200 < cLine) {pins : List (Addr × Obj)} {s : Shared} {σ : L2.St} {a : Addr} {ys : List V} {xs : List D} {Q : VK} (I : Inv X pins σ H s) (ha : SqL X.K H a ys) (ra : RpAll X.K H Z ys xs) (ho : sortOk xs = true) (z : Zok H Z) (q : PostR X.K H Z Q (.tl (sortD xs))) :
    wpAny (model X.prog X.w) X.A (call (.builtin "sorted") [.ref a]) (fun u s1 => ∃ v H', Inv X pins σ H' s1 ∧ RelV v u ∧ Q v H') X.xe s := by
  obtain ⟨its, rv, p, hz⟩ := I.list ha
  obtain ⟨as, hr⟩ := Dp.readsAll I xs ys its ra.dp rv
  unfold sortOk at ho
  simp only [Bool.and_eq_true, decide_eq_true_eq] at ho
  have hm : xs.map id = xs := List.map_id _
  rw [sortD_ms] at q
  refine PySem.W.sorted_data (enc := id) (R := Stn X.K H Z) p.isList (each_stn ra rv) (each_reads hr) (by rw [hm]; exact alikeB_all ho.1.1.1) (by rw [hm]; exact sortable_of ho.1.1.2) ?_ (fun b hb => ?_) fun out hl he => ?_
  · exact sizeOk_le ho.2
  · have := depth_le hb
    have h2 := ho.1.2
    show X.A.units + 2 + b.depth < cLine
    omega
  · obtain ⟨vs', k1, k2⟩ := stn_each he
    obtain ⟨ep, he'⟩ := PyProof.Rows.sortedAll_at s.heap its out.toArray
    have hlen : vs'.length ≤ sizeLine := by
      rw [k1.length, hl, ← ra.length]; exact hz
    exact ⟨.ref _, upd H (s.heap.objs.size + 1) (.lst vs'), I.laid (t' := s.toks) (fun _ _ => PyProof.Rows.sortedAll_old) (Nat.le_succ _) ⟨hlen, out, ep, k1, he'⟩, rfl, q.lst z k2 _ (I.hok.fresh (Nat.le_succ _))⟩
theorem fold_mem (c : D → D → Bool) : ∀ (xs : List D) (x : D), xs.foldl (fun a y => if c a y then y else a) x ∈ x :: xs
  | [], x => by simp
  | y :: ys, x => by
    rw [List.foldl_cons]
    by_cases h : c x y = true
    · rw [if_pos h]
      have := fold_mem c ys y
      exact List.mem_cons_of_mem _ this
    · rw [if_neg h]
      have := fold_mem c ys x
      rcases List.mem_cons.mp this with e | m
      · rw [e]; simp
      · exact List.mem_cons_of_mem _ (List.mem_cons_of_mem _ m)
theorem stood {pins : List (Addr × Obj)} {s : Shared} {σ : L2.St} {ys : List V} {xs : List D} {its : List Value} {i : Nat} {v : Value} {h' : Heap} {m : D} {bs : List Addr} (I : Inv X pins σ H s) (rv : Vals ys its) (ra : RpAll X.K H Z ys xs) (hv : its.toArray[i]? = some v) (hr : Reads h' v m bs)
    (hk : ∀ b o, s.heap.get? b = some o → h'.get? b = some o) (ha : PySem.W.AllAlike xs) (hm : m ∈ xs) : ∃ y, RelV y v ∧ Rp X.K H Z y m := by
  rw [List.getElem?_toArray] at hv
  have hi := (List.getElem?_eq_some_iff.mp hv).1
  have hl := rv.length
  obtain ⟨y, hy⟩ : ∃ y, ys[i]? = some y := ⟨ys[i]'(by omega), List.getElem?_eq_getElem _⟩
  obtain ⟨u, hu, r⟩ := rv.get hy
  rw [hv] at hu
  cases hu
  obtain ⟨d, hd, rd⟩ := ra.get hy
  obtain ⟨as, r2⟩ := Dp.reads I d y v rd.dp r
  have e := PySem.W.alike_unique d m v as bs (ha d (List.mem_of_getElem? hd) m hm) (PySem.W.reads_keeps hk r2) hr
  subst e
  exact ⟨y, r, rd⟩
theorem best_all {xs : List D} (h : bestOk xs = true) : PySem.W.AlikeAll xs ∧ PyData.depthAll xs ≤ 100 := by
  unfold bestOk at h
  simp only [Bool.and_eq_true, decide_eq_true_eq] at h
  refine ⟨⟨alikeB_all h.1.1, fun x hx e => ?_⟩, h.2⟩
  have := List.all_eq_true.mp h.1.2 x hx
  subst e
  cases this
theorem call_minD (hc : X.calm = true) (hu : X.A.units + 200 < cLine) {pins : List (Addr × Obj)} {s : Shared} {σ : L2.St} {a : Addr} {ys : List V} {x : D} {xs : List D} {Q : VK} (I : Inv X pins σ H s) (ha : SqL X.K H a ys) (ra : RpAll X.K H Z ys (x :: xs)) (ho : bestOk (x :: xs) = true) (z : Zok H Z) (q : PostR X.K H Z Q (.dat (PySem.W.minD x xs))) :
    wpAny (model X.prog X.w) X.A (call (.builtin "min") [.ref a]) (fun u s1 => ∃ v H', Inv X pins σ H' s1 ∧ RelV v u ∧ Q v H') X.xe s := by
  obtain ⟨its, rv, p, hz⟩ := I.list ha
  obtain ⟨as, hr⟩ := Dp.readsAll I _ ys its ra.dp rv
  obtain ⟨b1, b2⟩ := best_all ho
  refine PySem.W.min_list_data (I.ok.hd hc) p.isList hr b1 (by omega) fun i v h' tk bs hv hr' hk => ?_
  obtain ⟨y, r, rd⟩ := stood I rv ra hv hr' hk b1.1 (fold_mem (fun a y => PySem.W.dataLt y a) xs x)
  exact ⟨y, H, I.kept (t' := tk) hk, r, q.old z rd⟩
theorem call_maxD (hc : X.calm = true) (hu : X.A.units + 200 < cLine) {pins : List (Addr × Obj)} {s : Shared} {σ : L2.St} {a : Addr} {ys : List V} {x : D} {xs : List D} {Q : VK} (I : Inv X pins σ H s) (ha : SqL X.K H a ys) (ra : RpAll X.K H Z ys (x :: xs)) (ho : bestOk (x :: xs) = true) (z : Zok H Z) (q : PostR X.K H Z Q (.dat (PySem.W.maxD x xs))) :
    wpAny (model X.prog X.w) X.A (call (.builtin "max") [.ref a]) (fun u s1 => ∃ v H', Inv X pins σ H' s1 ∧ RelV v u ∧ Q v H') X.xe s := by
  obtain ⟨its, rv, p, hz⟩ := I.list ha
  obtain ⟨as, hr⟩ := Dp.readsAll I _ ys its ra.dp rv
  obtain ⟨b1, b2⟩ := best_all ho
  refine PySem.W.max_list_data (I.ok.hd hc) p.isList hr b1 (by omega) fun i v h' tk bs hv hr' hk => ?_
  obtain ⟨y, r, rd⟩ := stood I rv ra hv hr' hk b1.1 (fold_mem (fun a y => PySem.W.dataLt a y) xs x)
  exact ⟨y, H, I.kept (t' := tk) hk, r, q.old z rd⟩
end
end Rf
end

-- text RfC0
section
set_option Elab.async false
set_option linter.all false
set_option maxRecDepth 100000
set_option maxHeartbeats 1000000
/-! RfC0: insertion sort. -/
namespace Rf
open PySem PySem.Spec PyProof.Rows L2
section
variable {α : Type} {le : α → α → Bool}
theorem insB_perm (x : α) : ∀ l : List α, (insB le x l).Perm (x :: l)
  | [] => .refl _
  | y :: r => by
    unfold insB
    split
    · exact .refl _
    · exact ((insB_perm x r).cons y).trans (.swap x y r)
theorem srtB_perm : ∀ l : List α, (srtB le l).Perm l
  | [] => .refl _
  | x :: r => (insB_perm x (srtB le r)).trans ((srtB_perm r).cons x)
theorem insB_pw (tot : ∀ a b, le a b = true ∨ le b a = true) (tr : ∀ a b c, le a b = true → le b c = true → le a c = true) (x : α) : ∀ l : List α, l.Pairwise (fun a b => le a b = true) → (insB le x l).Pairwise (fun a b => le a b = true)
  | [], _ => by simp [insB]
  | y :: r, h => by
    rw [List.pairwise_cons] at h
    unfold insB
    split
    · rename_i hx
      rw [List.pairwise_cons]
      refine ⟨fun z hz => ?_, List.pairwise_cons.mpr h⟩
      rcases List.mem_cons.mp hz with rfl | hz
      · exact hx
      · exact tr _ _ _ hx (h.1 z hz)
    · rename_i hx
      rw [List.pairwise_cons]
      refine ⟨fun z hz => ?_, insB_pw tot tr x r h.2⟩
      rcases List.mem_cons.mp ((insB_perm x r).mem_iff.mp hz) with rfl | hz
      · exact (tot z y).resolve_left hx
      · exact h.1 z hz
theorem srtB_pw (tot : ∀ a b, le a b = true ∨ le b a = true) (tr : ∀ a b c, le a b = true → le b c = true → le a c = true) : ∀ l : List α, (srtB le l).Pairwise (fun a b => le a b = true)
  | [] => .nil
  | x :: r => insB_pw tot tr x _ (srtB_pw tot tr r)
theorem sorted_unique (an : ∀ a b, le a b = true → le b a = true → a = b) : ∀ {xs ys : List α}, xs.Perm ys → xs.Pairwise (fun a b => le a b = true) → ys.Pairwise (fun a b => le a b = true) → xs = ys
  | [], ys, p, _, _ => by have := p.length_eq; cases ys with | nil => rfl | cons _ _ => simp at this
  | x :: xs, [], p, _, _ => by have := p.length_eq; simp at this
  | x :: xs, y :: ys, p, h1, h2 => by
    have hx : x ∈ y :: ys := p.mem_iff.mp (by simp)
    have hy : y ∈ x :: xs := p.mem_iff.mpr (by simp)
    rw [List.pairwise_cons] at h1 h2
    have e : x = y := by
      rcases List.mem_cons.mp hx with e | hx
      · exact e
      · rcases List.mem_cons.mp hy with e | hy
        · exact e.symm
        · exact an _ _ (h1.1 y hy) (h2.1 x hx)
    subst e
    rw [sorted_unique an (List.Perm.cons_inv p) h1.2 h2.2]
end
/-! texts by their signs -/
theorem leS_tot (a b : Str) : (!ltCps b a) = true ∨ (!ltCps a b) = true := by
  simp only [ltCps, Bool.not_eq_true', decide_eq_false_iff_not, List.not_lt]
  exact List.le_total _ _
theorem leS_tr (a b c : Str) (h1 : (!ltCps b a) = true) (h2 : (!ltCps c b) = true) : (!ltCps c a) = true := by
  simp only [ltCps, Bool.not_eq_true', decide_eq_false_iff_not, List.not_lt] at *
  exact List.le_trans h1 h2
theorem str_ext {a b : Str} (h : a.cps.toList = b.cps.toList) : a = b := by
  obtain ⟨⟨a⟩⟩ := a
  obtain ⟨⟨b⟩⟩ := b
  simp at h
  rw [h]
theorem leS_an (a b : Str) (h1 : (!ltCps b a) = true) (h2 : (!ltCps a b) = true) : a = b := by
  simp only [ltCps, Bool.not_eq_true', decide_eq_false_iff_not, List.not_lt] at *
  exact str_ext (List.le_antisymm h1 h2)
theorem leI_tot (a b : Int) : decide (a ≤ b) = true ∨ decide (b ≤ a) = true := by simp; omega
theorem leI_tr (a b c : Int) (h1 : decide (a ≤ b) = true) (h2 : decide (b ≤ c) = true) : decide (a ≤ c) = true := by simp at *; omega
theorem leI_an (a b : Int) (h1 : decide (a ≤ b) = true) (h2 : decide (b ≤ a) = true) : a = b := by simp at *; omega
theorem risingS_pw : ∀ {r : List Str} {p : Str}, risingS p r = true → (p :: r).Pairwise (fun a b => (!ltCps b a) = true)
  | [], p, _ => by simp
  | x :: r, p, h => by
    unfold risingS at h
    rw [Bool.and_eq_true] at h
    have ih := risingS_pw h.2
    have hx : (!ltCps x p) = true := by
      have := h.1
      rw [PyProof.Rows.ltCps_eq] at this
      exact this
    rw [List.pairwise_cons]
    refine ⟨fun y hy => ?_, ih⟩
    rcases List.mem_cons.mp hy with rfl | hy
    · exact hx
    · exact leS_tr _ _ _ hx ((List.pairwise_cons.mp ih).1 y hy)
theorem sortedS_pw {l : List Str} (h : sortedS l = true) : l.Pairwise (fun a b => (!ltCps b a) = true) := by
  cases l with
  | nil => exact .nil
  | cons x r => exact risingS_pw h
end Rf
end

-- text RfC2
section
set_option Elab.async false
set_option linter.all false
set_option maxRecDepth 100000
set_option maxHeartbeats 1000000
/-! RfC2: comparisons, places, slices, built-in functions over data. -/
namespace Rf
open PySem PySem.Spec PyProof.Rows L2
section
variable {X : Cx}
theorem vw_isN {H : Hp} {Z : Addr → Prop} {x : V} {d : D} (h : Vw X.K H Z x d) : decide (x = V.non) = isN d := by
  cases d with
  | none => cases h; rfl
  | bool _ => cases h; rfl
  | int _ => cases h; rfl
  | str _ => cases h; rfl
  | list _ => obtain ⟨a, xs, rfl, _⟩ := h; rfl
  | tuple _ => obtain ⟨a, xs, rfl, _⟩ := h.tup; rfl
  | dict _ => obtain ⟨a, xs, rfl, _⟩ := h; rfl
def mapB (f : D → D → Option Bool) : D → D → Option Rv := fun x y => (f x y).map fun b => .dat (.bool b)
theorem KvR.some_eq {K : PySem.W.Frag} {H : Hp} {Z : Addr → Prop} {ws : List (Key × V)} {kvs : List (D × D)} (hk : KvR K H Z ws kvs) (q : Key) : (dVal kvs q).isSome = (valV ws q).isSome := by
  rcases hk.val q with ⟨e1, e2⟩ | ⟨d, w, e1, e2, _⟩ <;> rw [e1, e2] <;> rfl
theorem KvR.keysI {K : PySem.W.Frag} {H : Hp} {Z : Addr → Prop} : ∀ {ws : List (Key × V)} {kvs : List (D × D)} {ns : List Int}, KvR K H Z ws kvs → intsOf (kvs.map (·.1)) = some ns → ws.map (·.1) = ns.map Sum.inl
  | _, _, ns, .nil, e => by cases e; rfl
  | _, _, ns, .cons (k := k) (dk := dk) (kvs := kvs) h1 hf h2 h3, e => by
    cases dk with
    | int i =>
      obtain ⟨ms, hm, rfl⟩ := Option.map_eq_some_iff.mp (show (intsOf (kvs.map (·.1))).map (i :: ·) = some ns from e)
      have := h3.keysI hm
      cases h1
      simp [this]
    | _ => cases e
theorem KvR.keysS {K : PySem.W.Frag} {H : Hp} {Z : Addr → Prop} : ∀ {ws : List (Key × V)} {kvs : List (D × D)} {zs : List Str}, KvR K H Z ws kvs → strsOf (kvs.map (·.1)) = some zs → ws.map (·.1) = zs.map Sum.inr ∧ ∀ z ∈ zs, PyData.str z ∈ kvs.map (·.1)
  | _, _, zs, .nil, e => by cases e; exact ⟨rfl, fun z h => by simp at h⟩
  | _, _, zs, .cons (k := k) (dk := dk) (kvs := kvs) h1 hf h2 h3, e => by
    cases dk with
    | str z =>
      obtain ⟨ms, hm, rfl⟩ := Option.map_eq_some_iff.mp (show (strsOf (kvs.map (·.1))).map (z :: ·) = some zs from e)
      obtain ⟨a, b⟩ := h3.keysS hm
      cases h1
      refine ⟨by simp [a], fun y hy => ?_⟩
      rcases List.mem_cons.mp hy with rfl | hy
      · simp
      · have := b y hy
        rw [List.map_cons]
        exact List.mem_cons_of_mem _ this
    | _ => cases e
theorem rp_strs2 {K : PySem.W.Frag} {H : Hp} {Z : Addr → Prop} : ∀ {zs : List Str}, (∀ z ∈ zs, StrFit z) → RpAll K H Z (zs.map V.str) (zs.map PyData.str)
  | [], _ => .nil
  | z :: zs, h => .cons (.str z (h z (by simp))) (rp_strs2 fun y hy => h y (by simp [hy]))
theorem rp_ints {K : PySem.W.Frag} {H : Hp} {Z : Addr → Prop} : ∀ ns : List Int, RpAll K H Z (ns.map V.int) (ns.map PyData.int)
  | [] => .nil
  | n :: r => .cons (.int n) (rp_ints r)
theorem vw_key {K : PySem.W.Frag} {H : Hp} {Z : Addr → Prop} {x : V} {d : D} {q : Key} (h : Vw K H Z x d) (e : keyOf d = some q) : x = kV q := by
  cases d with
  | int i => cases e; cases h; rfl
  | str z => cases e; cases h; rfl
  | _ => cases e
theorem op_cmpD (hu : X.A.units + 200 < cLine) (o : CmpOp) : OpR X (compareOp o) (r2D X.K (mapB (cmpD o))) := by
  intro pins s σ H x y v u Q I rx ry h
  obtain ⟨Z, dx, dy, r, z, hx, hy, e, q⟩ := h
  obtain ⟨b, eb, er⟩ := Option.map_eq_some_iff.mp e
  subst er
  have qb := q.bl z
  unfold cmpD at eb
  have room : ∀ {a c : D}, eqOk a c = true → X.A.units + min a.depth c.depth < cLine := fun {a c} h => by
    unfold eqOk at h
    rw [Bool.and_eq_true] at h
    have := of_decide_eq_true h.1
    unfold depL at this
    omega
  have nd : ∀ {a c : D}, eqOk a c = true → isDct a = false ∧ isDct c = false := fun {a c} h => by
    unfold eqOk at h
    simp only [Bool.and_eq_true, Bool.not_eq_true'] at h
    exact h.2
  have room2 : ∀ {ys : List D} {c : D}, decide (min (PyData.depthAll ys) c.depth ≤ depL) = true → X.A.units + 1 + min (PyData.depthAll ys) c.depth < cLine := fun {ys c} h => by
    have := of_decide_eq_true h
    unfold depL at this
    omega
  split at eb
  · split at eb
    · rename_i he
      cases eb
      obtain ⟨as, r1⟩ := Dp.reads I _ x v (hx.dp (nd he).1) rx
      obtain ⟨bs, r2⟩ := Dp.reads I _ y u (hy.dp (nd he).2) ry
      exact SeqAt.compareEq_reads r1 r2 (hx.can (nd he).1) (hy.can (nd he).2) (room he) ⟨.bl _, H, I, rfl, qb⟩
    · cases eb
  · split at eb
    · rename_i he
      cases eb
      obtain ⟨as, r1⟩ := Dp.reads I _ x v (hx.dp (nd he).1) rx
      obtain ⟨bs, r2⟩ := Dp.reads I _ y u (hy.dp (nd he).2) ry
      exact SeqAt.compareNe_reads r1 r2 (hx.can (nd he).1) (hy.can (nd he).2) (room he) ⟨.bl _, H, I, rfl, qb⟩
    · cases eb
  · cases eb; cases hx; cases hy
    exact op_lt pins s σ H _ _ v u Q I rx ry ⟨_, _, rfl, rfl, qb⟩
  · cases eb; cases hx; cases hy
    exact op_le pins s σ H _ _ v u Q I rx ry ⟨_, _, rfl, rfl, qb⟩
  · cases eb; cases hx; cases hy
    exact op_gt pins s σ H _ _ v u Q I rx ry ⟨_, _, rfl, rfl, qb⟩
  · cases eb; cases hx; cases hy
    exact op_ge pins s σ H _ _ v u Q I rx ry ⟨_, _, rfl, rfl, qb⟩
  · cases eb; cases hx; cases hy
    exact op_lt_str pins s σ H _ _ v u Q I rx ry ⟨_, _, rfl, rfl, qb⟩
  · cases eb; cases hx; cases hy
    exact op_le_str pins s σ H _ _ v u Q I rx ry ⟨_, _, rfl, rfl, qb⟩
  · split at eb
    · rename_i he
      cases eb
      rw [Bool.and_eq_true] at he
      obtain ⟨as, r1⟩ := Dp.reads I _ x v (hx.dp rfl) rx
      obtain ⟨bs, r2⟩ := Dp.reads I _ y u (hy.dp rfl) ry
      exact PySem.W.lt_data r1 r2 he.1 (fun e => nomatch e) (by have := of_decide_eq_true he.2; unfold depL at this; omega) ⟨.bl _, H, I, rfl, qb⟩
    · cases eb
  · cases eb; cases hx; cases hy
    exact op_in_str pins s σ H _ _ v u Q I rx ry ⟨_, _, rfl, rfl, qb⟩
  · cases eb; cases hx; cases hy
    exact op_notIn_str pins s σ H _ _ v u Q I rx ry ⟨_, _, rfl, rfl, qb⟩
  · obtain ⟨q0, hq, rfl⟩ := Option.map_eq_some_iff.mp eb
    obtain ⟨a, ws, rfl, ha, hk⟩ := hy
    cases (show u = Value.ref a from ry)
    have hxk := vw_key hx hq
    subst hxk
    rw [hk.some_eq q0] at qb
    exact d_in (by omega) I (DGet.k ha) rx fun s' I' => ⟨.bl _, H, I', rfl, qb⟩
  · obtain ⟨q0, hq, rfl⟩ := Option.map_eq_some_iff.mp eb
    obtain ⟨a, ws, rfl, ha, hk⟩ := hy
    cases (show u = Value.ref a from ry)
    have hxk := vw_key hx hq
    subst hxk
    rw [hk.some_eq q0] at qb
    exact d_notIn (by omega) I (DGet.k ha) rx fun s' I' => ⟨.bl _, H, I', rfl, qb⟩
  · unfold memD at eb
    split at eb
    · rename_i he
      cases eb
      rw [Bool.and_eq_true, Bool.not_eq_true'] at he
      obtain ⟨as, r1⟩ := Dp.reads I _ x v (hx.dp he.2) rx
      obtain ⟨bs, r2⟩ := Dp.reads I _ y u (hy.dp rfl) ry
      exact SeqAt.in_list_reads r2 r1 (hy.can rfl) (hx.can he.2) (room2 he.1) ⟨.bl _, H, I, rfl, qb⟩
    · cases eb
  · unfold memD at eb
    split at eb
    · rename_i he
      cases eb
      rw [Bool.and_eq_true, Bool.not_eq_true'] at he
      obtain ⟨as, r1⟩ := Dp.reads I _ x v (hx.dp he.2) rx
      obtain ⟨bs, r2⟩ := Dp.reads I _ y u (hy.dp rfl) ry
      exact SeqAt.in_tuple_reads r2 r1 (hy.can rfl) (hx.can he.2) (room2 he.1) ⟨.bl _, H, I, rfl, qb⟩
    · cases eb
  · unfold memD at eb
    split at eb
    · rename_i he
      cases eb
      rw [Bool.and_eq_true, Bool.not_eq_true'] at he
      obtain ⟨as, r1⟩ := Dp.reads I _ x v (hx.dp he.2) rx
      obtain ⟨bs, r2⟩ := Dp.reads I _ y u (hy.dp rfl) ry
      exact SeqAt.notIn_list_reads r2 r1 (hy.can rfl) (hx.can he.2) (room2 he.1) ⟨.bl _, H, I, rfl, qb⟩
    · cases eb
  · unfold memD at eb
    split at eb
    · rename_i he
      cases eb
      rw [Bool.and_eq_true, Bool.not_eq_true'] at he
      obtain ⟨as, r1⟩ := Dp.reads I _ x v (hx.dp he.2) rx
      obtain ⟨bs, r2⟩ := Dp.reads I _ y u (hy.dp rfl) ry
      exact SeqAt.notIn_tuple_reads r2 r1 (hy.can rfl) (hx.can he.2) (room2 he.1) ⟨.bl _, H, I, rfl, qb⟩
    · cases eb
  · cases eb
    cases hy
    refine op_isN pins s σ H _ _ v u Q I rx ry ⟨rfl, ?_⟩
    rw [vw_isN hx]
    exact qb
  · cases eb
    cases hy
    refine op_notN pins s σ H _ _ v u Q I rx ry ⟨rfl, ?_⟩
    rw [vw_isN hx]
    exact qb
  · cases eb

theorem RpAll.atI {K : PySem.W.Frag} {H : Hp} {Z : Addr → Prop} {xs : List V} {ds : List D} {i : Int} {d : D} (h : RpAll K H Z xs ds) (e : L2.atI ds i = some d) : ∃ v, L2.atI xs i = some v ∧ Rp K H Z v d := by
  unfold L2.atI at e ⊢
  rw [h.length]
  cases q : ixN ds.length i with
  | none => rw [q] at e; cases e
  | some j =>
    rw [q] at e
    exact h.getD (i := j) e
def mapD (f : D → D → Option D) : D → D → Option Rv := fun x y => (f x y).map .dat
theorem ix_dict (hu : X.A.units + 1 < cLine) : IxR X (fun x y H Q => ∃ a v, x = .ref a ∧ DGet H a y (some v) ∧ Q v H) := by
  intro value slice pins s σ H x y v u Q I rx ry h hs
  obtain ⟨a, w, rfl, g, q⟩ := h
  cases (show v = Value.ref a from rx)
  have hT := dict_typeIs I g
  unfold subscriptTail
  refine wpAny_bind ?_
  rw [getitemInPython_of_ne hT.not_modules]
  refine wpAny_bind (wpAny_specialOf hT PySem.F.slot_dict_getitem.lookup ?_)
  have fin : wpAny (model X.prog X.w) X.A (subscripted slice false (.ref a) u) (fun r s₃ => wpAny (model X.prog X.w) X.A (letTemporaryGo value (.ref a) r >>= fun _ => pure r) (EP X pins σ Q) X.xe s₃) X.xe s := by
    rw [hs]
    exact wpAny_operating (d_getItem hu I g ry fun w' s3 I3 rw' => wpAny_bind (wpAny_letTemporaryGo (wpAny_pure ⟨w, H, I3, rw', q⟩)))
  first
    | exact wpAny_pure (wpAny_bind fin)
    | exact wpAny_bind (wpAny_pure (wpAny_bind fin))
    | exact wpAny_bind fin
theorem ix_D (hu : X.A.units + 1 < cLine) : IxR X (r2D X.K (mapD idxD)) := by
  intro value slice pins s σ H x y v u Q I rx ry h hs
  obtain ⟨Z, dx, dy, r, z, hx, hy, e, q⟩ := h
  obtain ⟨d, ed, er⟩ := Option.map_eq_some_iff.mp e
  subst er
  unfold idxD at ed
  split at ed
  · cases hy
    obtain ⟨a, xs, rfl, ha, ra⟩ := hx
    obtain ⟨w, hw, rw⟩ := ra.atI ed
    exact ix_list value slice pins s σ H _ _ v u Q I rx ry ⟨a, xs, _, w, rfl, rfl, ha, hw, q.old z rw⟩ hs
  · cases hy
    obtain ⟨a, xs, rfl, ha, ra⟩ := hx.tup
    obtain ⟨w, hw, rw⟩ := ra.atI ed
    exact ix_tup value slice pins s σ H _ _ v u Q I rx ry ⟨a, xs, _, w, rfl, rfl, ha, hw, q.old z rw⟩ hs
  · cases hy
    cases hx with
    | str _ fx =>
    obtain ⟨c, ec, er⟩ := Option.map_eq_some_iff.mp ed
    subst er
    refine ix_str value slice pins s σ H _ _ v u Q I rx ry ⟨_, _, c, rfl, rfl, fx.1, ec, q.str z (fx.one ?_)⟩ hs
    obtain ⟨j, _, hj, _⟩ := atI_get ec
    exact List.mem_of_getElem? hj
  · obtain ⟨q0, hq, ed⟩ := Option.bind_eq_some_iff.mp ed
    obtain ⟨a, ws, rfl, ha, hk⟩ := hx
    have hyk := vw_key hy hq
    subst hyk
    rcases hk.val q0 with ⟨e1, e2⟩ | ⟨d', w, e1, e2, rw⟩
    · rw [e1] at ed; cases ed
    · rw [e1] at ed
      cases ed
      exact ix_dict hu value slice pins s σ H _ _ v u Q I rx ry ⟨a, w, rfl, by rw [← e2]; exact DGet.k ha, q.old z rw⟩ hs
  · cases ed
def rSlD (K : PySem.W.Frag) : V → Option Int → Option Int → Hp → VK → Prop := fun x lo hi H Q => ∃ Z dx r, Zok H Z ∧ Vw K H Z x dx ∧ slcD dx lo hi = some r ∧ PostR K H Z Q r
theorem sl_D : SlR X (rSlD X.K) := by
  intro pins s σ H x v vl vu lo hi sl Q I rx hs pl pu h
  obtain ⟨Z, dx, r, z, hx, e, q⟩ := h
  unfold slcD at e
  split at e
  · cases e
    obtain ⟨a, xs, rfl, ha, ra⟩ := hx
    exact sl_list pins s σ H _ v vl vu lo hi sl Q I rx hs pl pu ⟨a, xs, rfl, ha, q.lst z (ra.cut lo hi)⟩
  · cases e
    obtain ⟨a, xs, rfl, ha, ra⟩ := hx.tup
    refine sl_tupZ pins s σ H _ v vl vu lo hi sl Q I rx hs pl pu ⟨a, xs, rfl, ha, fun hw => ?_, fun _ => ⟨_, q.tup z (ra.cut lo hi)⟩⟩
    have ec : cutL (by assumption : List D) lo hi = (by assumption : List D) := by
      rename_i ds
      unfold cutL
      rw [← ra.length, hw.1, hw.2, List.drop_zero, Nat.sub_zero, ra.length, List.take_length]
    rw [ec] at q
    exact q.old z hx
  · cases e
    cases hx with | str _ f =>
    exact sl_str pins s σ H _ v vl vu lo hi sl Q I rx hs pl pu ⟨_, rfl, f.1, q.str z (fit_cut f)⟩
  · cases e

/-! ### truth -/
theorem tru_D {H : Hp} {Z : Addr → Prop} {x : V} {d : D} (h : Vw X.K H Z x d) : TruV X.K x H (truD d) := by
  cases d with
  | none => cases h; rfl
  | bool _ => cases h; rfl
  | int _ => cases h; rfl
  | str y =>
    cases h with
    | str _ f =>
    refine ⟨f.1, ?_⟩
    show (y.length != 0) = ((y.length : Int) != 0)
    by_cases e : y.length = 0
    · rw [e]; rfl
    · rw [show (y.length != 0) = true from bne_iff_ne.mpr e, show ((y.length : Int) != 0) = true from bne_iff_ne.mpr (by omega)]
  | list ds =>
    obtain ⟨a, xs, rfl, ha, ra⟩ := h
    refine .inl ⟨xs, ha, ?_⟩
    cases ra <;> rfl
  | tuple ds =>
    obtain ⟨a, xs, rfl, ha, ra⟩ := h.tup
    refine .inr (.inl ⟨xs, ha, ?_⟩)
    cases ra <;> rfl
  | dict _ =>
    obtain ⟨a, ws, rfl, ha, hk⟩ := h
    refine .inr (.inr ⟨ws, ha, ?_⟩)
    cases hk <;> rfl
/-! ### built-in functions -/
theorem vw_ints {K : PySem.W.Frag} {H : Hp} {Z : Addr → Prop} : ∀ {ds : List D} {xs : List V} {ns : List Int}, intsOf ds = some ns → RpAll K H Z xs ds → xs = ns.map V.int
  | [], _, _, e, h => by cases h; cases e; rfl
  | .int i :: r, _, _, e, h => by
    cases h with
    | cons h1 h2 =>
      cases h1
      obtain ⟨ms, em, er⟩ := Option.map_eq_some_iff.mp (show (intsOf r).map (i :: ·) = _ from e)
      subst er
      rw [vw_ints em h2]
      rfl
  | .none :: _, _, _, e, _ => by cases e
  | .bool _ :: _, _, _, e, _ => by cases e
  | .str _ :: _, _, _, e, _ => by cases e
  | .list _ :: _, _, _, e, _ => by cases e
  | .tuple _ :: _, _, _, e, _ => by cases e
  | .dict _ :: _, _, _, e, _ => by cases e
theorem vw_bools {K : PySem.W.Frag} {H : Hp} {Z : Addr → Prop} : ∀ {ds : List D} {xs : List V} {ns : List Bool}, boolsOf ds = some ns → RpAll K H Z xs ds → xs = ns.map V.bl
  | [], _, _, e, h => by cases h; cases e; rfl
  | .bool i :: r, _, _, e, h => by
    cases h with
    | cons h1 h2 =>
      cases h1
      obtain ⟨ms, em, er⟩ := Option.map_eq_some_iff.mp (show (boolsOf r).map (i :: ·) = _ from e)
      subst er
      rw [vw_bools em h2]
      rfl
  | .none :: _, _, _, e, _ => by cases e
  | .int _ :: _, _, _, e, _ => by cases e
  | .str _ :: _, _, _, e, _ => by cases e
  | .list _ :: _, _, _, e, _ => by cases e
  | .tuple _ :: _, _, _, e, _ => by cases e
  | .dict _ :: _, _, _, e, _ => by cases e
theorem maxI_mem : ∀ (l : List Int) (m : Int), maxI m l ∈ m :: l ∧ ∀ y ∈ m :: l, y ≤ maxI m l
  | [], m => by simp [maxI]
  | x :: r, m => by
    have ih := maxI_mem r (if x > m then x else m)
    unfold maxI
    refine ⟨?_, fun y hy => ?_⟩
    · have h := ih.1
      rw [List.mem_cons] at h
      rcases h with h | h
      · rw [h]; split <;> simp
      · exact List.mem_cons_of_mem _ (List.mem_cons_of_mem _ h)
    · have hm : (if x > m then x else m) ≤ maxI (if x > m then x else m) r := ih.2 _ List.mem_cons_self
      rw [List.mem_cons, List.mem_cons] at hy
      rcases hy with rfl | rfl | hy
      · split at hm <;> split <;> omega
      · split at hm <;> split <;> omega
      · exact ih.2 y (List.mem_cons_of_mem _ hy)
theorem maxI_eq {n : Int} {l : List Int} {m : Int} (h1 : m ∈ n :: l) (h2 : ∀ y ∈ n :: l, y ≤ m) : m = maxI n l := by
  have ⟨a, b⟩ := maxI_mem l n
  have := b m h1
  have := h2 _ a
  omega
theorem VwAll.one {K : PySem.W.Frag} {H : Hp} {Z : Addr → Prop} {vs : List V} {d : D} (h : VwAll K H Z vs [d]) : ∃ v, vs = [v] ∧ Vw K H Z v d := by
  cases h with
  | cons h1 h2 => cases h2; exact ⟨_, rfl, h1⟩
theorem VwAll.two {K : PySem.W.Frag} {H : Hp} {Z : Addr → Prop} {vs : List V} {d e : D} (h : VwAll K H Z vs [d, e]) : ∃ v u, vs = [v, u] ∧ Vw K H Z v d ∧ Vw K H Z u e := by
  cases h with
  | cons h1 h2 =>
    obtain ⟨u, rfl, h3⟩ := h2.one
    exact ⟨_, _, rfl, h1, h3⟩
theorem VwAll.three {K : PySem.W.Frag} {H : Hp} {Z : Addr → Prop} {vs : List V} {d e f : D} (h : VwAll K H Z vs [d, e, f]) : ∃ v u w, vs = [v, u, w] ∧ Vw K H Z v d ∧ Vw K H Z u e ∧ Vw K H Z w f := by
  cases h with
  | cons h1 h2 =>
    obtain ⟨u, w, rfl, h3, h4⟩ := h2.two
    exact ⟨_, _, _, rfl, h1, h3, h4⟩
theorem call_min3I {X : Cx} (hc : X.calm = true) : CallR X (.builtin "min") (fun xs H Q => ∃ i j k, xs = [.int i, .int j, .int k] ∧ Q (.int (if j < i then (if k < j then k else j) else if k < i then k else i)) H) := by
  intro pins s σ H xs us Q I r h
  obtain ⟨i, j, k, rfl, q⟩ := h
  have hv : ∃ t u w, us = [.int i t, .int j u, .int k w] := by
    cases r with
    | cons r1 r2 =>
      cases r2 with
      | cons r2 r3 =>
        cases r3 with
        | cons r3 r4 =>
          cases r4
          obtain ⟨t, rfl⟩ := r1
          obtain ⟨u, rfl⟩ := r2
          obtain ⟨w, rfl⟩ := r3
          exact ⟨t, u, w, rfl⟩
  obtain ⟨t, u, w, rfl⟩ := hv
  refine min_three_ints (I.ok.hd hc) fun h' tk kp => ⟨_, H, I.kept kp, ?_, q⟩
  by_cases h1 : j < i
  · rw [if_pos h1, if_pos h1]
    by_cases h2 : k < j
    · rw [if_pos h2, if_pos h2]; exact ⟨_, rfl⟩
    · rw [if_neg h2, if_neg h2]; exact ⟨_, rfl⟩
  · rw [if_neg h1, if_neg h1]
    by_cases h2 : k < i
    · rw [if_pos h2, if_pos h2]; exact ⟨_, rfl⟩
    · rw [if_neg h2, if_neg h2]; exact ⟨_, rfl⟩
/-- the model's name of a built-in function -/
def Blt.val : Blt → Value
  | .len => .builtin "len" | .abs => .builtin "abs" | .max => .builtin "max" | .min => .builtin "min" | .sum => .builtin "sum" | .all => .builtin "all" | .any => .builtin "any"
  | .sorted => .builtin "sorted" | .tuple => .type "tuple" | .list => .type "list" | .int => .type "int" | .str => .type "str" | .range => .type "range" | .set => .type "set" | .dict => .type "dict"
/-- sum of a tuple of ints -/
theorem sum_tup {s : Shared} {l : Addr} {its : List Value} {ns : List Int} {A : Around} {E : Value → Shared → Prop} {P : Program} {w : World} {Q : Value → Shared → Prop} (hh : A.handled = none) (hl : s.heap.IsTuple l its.toArray) (hi : IntsAre its ns)
    (h : ∀ h' tk t', (∀ b o, s.heap.get? b = some o → h'.get? b = some o) → Q (.int ns.sum t') { s with heap := h', toks := tk }) : wpAny (model P w) A (call (.builtin "sum") [.ref l]) Q E s := by
  obtain ⟨xs, e⟩ := hi.allInts.items
  have hn : numsOf (intItems xs).toList = ns := by rw [← e]; exact hi.numsOf
  rw [nums_intItems] at hn
  rw [e] at hl
  have hlt : l < s.heap.objs.size := by obtain ⟨_, z, _⟩ := hl; exact Heap.lt_size z
  refine call_sum_walkG (wpAny_pyIter_tuple hl ?_)
  refine ⟨_, _, _, _, _, _, numAt xs, rfl, Walks.tuple (A := A.in1) hh s.heap.objs.size l (Nat.ne_of_lt hlt) (intItems xs), ⟨⟨_, Heap.get?_push_size _ rfl, rfl, rfl⟩, hl.at fun o z => Heap.get?_push_of_some _ z⟩, ?_, (fun _ _ => intItems_at), fun h' tk t' hk => ?_⟩
  · intro b hb
    show b < (s.heap.push _).objs.size
    rw [Heap.size_push]
    simp at hb
    rcases hb with e1 | e1
    · rw [e1]; exact Nat.lt_succ_self _
    · rw [e1]; exact Nat.lt_succ_of_lt hlt
  · have q := h h' tk t' fun b o z => hk b o (by simp; exact Nat.ne_of_lt (Heap.lt_size z)) (Heap.get?_push_of_some _ z)
    rw [preSum_eq, List.take_of_length_le (by simp [intItems]), hn]
    exact q
/-- max(d), d a dict whose keys are ints -/
def rMaxK : List V → Hp → VK → Prop := fun vs H Q => ∃ (a : Addr) (kvs : List (Key × V)) (is : List Int), vs = [V.ref a] ∧ H a = some (.dK kvs) ∧ kvs.map (·.1) = is.map Sum.inl ∧ is ≠ [] ∧ ∀ m, m ∈ is → (∀ j ∈ is, j ≤ m) → Q (.int m) H
theorem cr_maxK (hc : X.calm = true) : CallR X (.builtin "max") rMaxK := by
  intro pins s σ H vs us Q I r h
  obtain ⟨a, kvs, is, rfl, ha, hv, hne, q⟩ := h
  rw [Vals.ref1 r]
  obtain ⟨_, hsys, vs, rel, dof⟩ := dk_of I.hok ha
  obtain ⟨ep, dat⟩ := dof.dictAt
  obtain ⟨ob, es, ho, hex, hdat, hko, hpr, hnd⟩ := id dat
  have low : a < s.heap.objs.size := Heap.lt_size ho
  have keys : vs.map (·.1) = is.map Sum.inl := (KV.keys rel).symm.trans hv
  have same : vs.length = is.length := by
    have := congrArg List.length keys
    simpa using this
  have some1 : 0 < vs.length := by
    rw [same]
    exact List.length_pos_iff.mpr hne
  have val : ∀ (i : Nat) (v : Value), (∃ k x, vs[i]? = some (k, x) ∧ (mixKind X.prog X.w).is k v = true) → ∃ t, v = Value.int (is.getD i 0) t := fun i v ⟨k, x, hk, hkey⟩ => by
    have e1 : (vs.map (·.1))[i]? = some k := by rw [List.getElem?_map, hk] <;> rfl
    rw [keys, List.getElem?_map] at e1
    obtain ⟨j, hj, e2⟩ := Option.map_eq_some_iff.mp e1
    subst e2
    obtain ⟨t, e3⟩ := Value.isInt_shape (k := j) (v := v) (show Value.isInt j v = true from hkey)
    refine ⟨t, ?_⟩
    rw [e3, List.getD_eq_getElem?_getD, hj] <;> rfl
  refine call_max_walk (wpAny_pyIter_dict (knd := mixKind X.prog X.w) hsys dat ?_)
  refine ⟨_, _, _, _, _, _, _, rfl, Walks.dictKeys (knd := mixKind X.prog X.w) (A := X.A.in1) (I.ok.hd hc) s.heap.objs.size a (Nat.ne_of_lt low) vs ep,
    ⟨⟨_, Heap.get?_push_size _ rfl, rfl, rfl⟩, dat.keep fun b u e => Heap.get?_push_of_some _ e⟩, fun b hb => ?_, some1, CmpOf.ints_gt (fun i => is.getD i 0) val, fun v h' tk hP hk => ?_⟩
  · show b < (s.heap.push _).objs.size
    rw [Heap.size_push]
    rcases List.mem_cons.mp hb with e | hb
    · rw [e]
      exact Nat.lt_succ_self _
    · rw [List.mem_singleton.mp hb]
      exact Nat.lt_succ_of_lt low
  · obtain ⟨t, rfl⟩ := val _ v hP
    obtain ⟨b1, b2⟩ := argBest_gt (fun i => is.getD i 0) (vs.length - 1)
    refine ⟨.int _, H, I.kept (t' := tk) fun b u e => hk b u (fun hmem => ?_) (Heap.get?_push_of_some _ e), ⟨t, rfl⟩, q _ ?_ fun j hj => ?_⟩
    · have e1 : b = s.heap.objs.size := List.mem_singleton.mp hmem
      have e2 := Heap.lt_size e
      rw [e1] at e2
      exact absurd e2 (Nat.lt_irrefl _)
    · have hb : argBest (fun i j => decide (is.getD i 0 > is.getD j 0)) (vs.length - 1) < is.length := by omega
      rw [List.getD_eq_getElem?_getD, List.getElem?_eq_getElem hb]
      exact List.getElem_mem hb
    · obtain ⟨i, hi, e⟩ := List.mem_iff_getElem.mp hj
      have e2 : is.getD i 0 = j := by rw [List.getD_eq_getElem?_getD, List.getElem?_eq_getElem hi, ← e] <;> rfl
      rw [← e2]
      exact b2 i (by omega)
theorem call_D (hc : X.calm = true) (hu : X.A.units + 200 < cLine) (b : Blt) : CallR X b.val (rnD X.K (bltD b)) := by
  intro pins s σ H xs us Q I rv h
  obtain ⟨Z, ds, r, z, hd, e, q⟩ := h
  unfold bltD at e
  split at e
  · cases e; obtain ⟨v1, rfl, h1⟩ := hd.one
    obtain ⟨a, ys, rfl, ha, ra⟩ := h1
    exact call_len_seq pins s σ H _ us Q I rv ⟨a, ys, rfl, .inl ha, by rw [ra.length]; exact q.int z⟩
  · cases e; obtain ⟨v1, rfl, h1⟩ := hd.one
    obtain ⟨a, ys, rfl, ha, ra⟩ := h1.tup
    exact call_len_seq pins s σ H _ us Q I rv ⟨a, ys, rfl, .inr ha, by rw [ra.length]; exact q.int z⟩
  · cases e; obtain ⟨v1, rfl, h1⟩ := hd.one
    cases h1 with | str _ f =>
    exact call_len_str pins s σ H _ us Q I rv ⟨_, rfl, f.1, q.int z⟩
  · cases e; obtain ⟨v1, rfl, h1⟩ := hd.one
    obtain ⟨a, ws, rfl, ha, hk⟩ := h1
    rw [Vals.ref1 rv]
    exact d_len I (.inl ha) fun t s' I' => ⟨.int _, H, I', ⟨t, rfl⟩, by rw [hk.length]; exact q.int z⟩
  · cases e; obtain ⟨v1, rfl, h1⟩ := hd.one; cases h1
    exact call_abs pins s σ H _ us Q I rv ⟨_, rfl, q.int z⟩
  · split at e
    · rename_i n ns en
      cases e; obtain ⟨v1, rfl, h1⟩ := hd.one
      obtain ⟨a, ys, rfl, ha, ra⟩ := h1
      have ey := vw_ints en ra
      subst ey
      refine cr_max hc pins s σ H _ us Q I rv ⟨a, n :: ns, rfl, ha, by simp, fun m h1 h2 => ?_⟩
      rw [maxI_eq h1 h2]
      exact q.int z
    · split at e
      · split at e
        · rename_i ho
          cases e; obtain ⟨v1, rfl, h1⟩ := hd.one
          obtain ⟨a, ys, rfl, ha, ra⟩ := h1
          rw [Vals.ref1 rv]
          exact call_maxD hc hu I ha ra ho z q
        · cases e
      · cases e
  · split at e
    · split at e
      · rename_i ho
        cases e; obtain ⟨v1, rfl, h1⟩ := hd.one
        obtain ⟨a, ys, rfl, ha, ra⟩ := h1
        rw [Vals.ref1 rv]
        exact call_minD hc hu I ha ra ho z q
      · cases e
    · cases e
  · split at e
    · rename_i ns en
      split at e
      · rename_i hl
        cases e; obtain ⟨v1, rfl, h1⟩ := hd.one
        obtain ⟨a, ws, rfl, ha, hk⟩ := h1
        refine call_sortedDI hc pins s σ H _ us Q I rv ⟨a, ws, ns, rfl, .inl ha, hk.keysI en, of_decide_eq_true hl, fun ys p pm pw np => ?_⟩
        have e : ys = srtB (fun a b => decide (a ≤ b)) ns :=
          sorted_unique leI_an (pm.trans (srtB_perm _).symm) (pw.imp fun h => by simpa using h) (srtB_pw leI_tot leI_tr ns)
        rw [e]
        exact q.lst z (rp_ints _) p np
      · cases e
    · split at e
      · rename_i zs en
        split at e
        · rename_i hl
          cases e; obtain ⟨v1, rfl, h1⟩ := hd.one
          obtain ⟨a, ws, rfl, ha, hk⟩ := h1
          obtain ⟨k1, k2⟩ := hk.keysS en
          refine call_sortedD hc pins s σ H _ us Q I rv ⟨a, ws, zs, rfl, .inl ha, k1, of_decide_eq_true hl, fun ys p pm pw np => ?_⟩
          have e : ys = srtB (fun a b => !ltCps b a) zs := sorted_unique leS_an (pm.trans (srtB_perm _).symm) (sortedS_pw pw) (srtB_pw leS_tot leS_tr zs)
          rw [e]
          exact q.lst z (rp_strs2 fun y hy => hk.keyFit (k2 y ((srtB_perm zs).mem_iff.mp hy))) p np
        · cases e
      · cases e
  · split at e
    · rename_i n ns en
      cases e; obtain ⟨v1, rfl, h1⟩ := hd.one
      obtain ⟨a, ws, rfl, ha, hk⟩ := h1
      refine cr_maxK hc pins s σ H _ us Q I rv ⟨a, ws, n :: ns, rfl, ha, hk.keysI en, by simp, fun m h1 h2 => ?_⟩
      rw [maxI_eq h1 h2]
      exact q.int z
    · cases e
  · split at e
    · rename_i ho
      cases e; obtain ⟨v1, rfl, h1⟩ := hd.one
      obtain ⟨a, ys, rfl, ha, ra⟩ := h1
      rw [Vals.ref1 rv]
      exact call_sortD hu I ha ra ho z q
    · cases e
  · cases e; obtain ⟨v1, v2, rfl, h1, h2⟩ := hd.two; cases h1; cases h2
    exact call_max2 hc pins s σ H _ us Q I rv ⟨_, _, rfl, q.int z⟩
  · cases e; obtain ⟨v1, v2, rfl, h1, h2⟩ := hd.two; cases h1; cases h2
    exact call_min2 hc pins s σ H _ us Q I rv ⟨_, _, rfl, q.int z⟩
  · cases e; obtain ⟨v1, v2, v3, rfl, h1, h2, h3⟩ := hd.three; cases h1; cases h2; cases h3
    exact call_min3I hc pins s σ H _ us Q I rv ⟨_, _, _, rfl, q.int z⟩
  · obtain ⟨ns, en, er⟩ := Option.map_eq_some_iff.mp e
    subst er
    obtain ⟨v1, rfl, h1⟩ := hd.one
    obtain ⟨a, ys, rfl, ha, ra⟩ := h1
    have ey := vw_ints en ra
    subst ey
    exact cr_sum hc pins s σ H _ us Q I rv ⟨a, ns, rfl, ha, q.int z⟩
  · obtain ⟨ns, en, er⟩ := Option.map_eq_some_iff.mp e
    subst er
    obtain ⟨v1, rfl, h1⟩ := hd.one
    obtain ⟨a, ys, rfl, ha, ra⟩ := h1.tup
    have ey := vw_ints en ra
    subst ey
    rw [Vals.ref1 rv]
    obtain ⟨its, r', pl, _⟩ := I.tuple ha
    exact sum_tup (I.ok.hd hc) pl r'.ints fun h' tk t' hk => ⟨.int _, H, I.kept hk, ⟨_, rfl⟩, q.int z⟩
  · obtain ⟨ns, en, er⟩ := Option.map_eq_some_iff.mp e
    subst er
    obtain ⟨v1, rfl, h1⟩ := hd.one
    obtain ⟨a, ys, rfl, ha, ra⟩ := h1
    have ey := vw_bools en ra
    subst ey
    exact cr_all hc pins s σ H _ us Q I rv ⟨a, ns, rfl, ha, q.bl z⟩
  · obtain ⟨ns, en, er⟩ := Option.map_eq_some_iff.mp e
    subst er
    obtain ⟨v1, rfl, h1⟩ := hd.one
    obtain ⟨a, ys, rfl, ha, ra⟩ := h1
    have ey := vw_bools en ra
    subst ey
    exact cr_any hc pins s σ H _ us Q I rv ⟨a, ns, rfl, ha, q.bl z⟩
  · cases e; obtain ⟨v1, rfl, h1⟩ := hd.one
    obtain ⟨a, ys, rfl, ha, ra⟩ := h1
    exact call_tupleZ pins s σ H _ us Q I rv ⟨a, ys, rfl, .inl ⟨ha, _, q.tup z ra⟩⟩
  · cases e; obtain ⟨v1, rfl, h1⟩ := hd.one
    obtain ⟨a, ys, rfl, ha, ra⟩ := h1.tup
    exact call_tupleZ pins s σ H _ us Q I rv ⟨a, ys, rfl, .inr ⟨ha, q.old z h1⟩⟩
  · cases e; obtain ⟨v1, rfl, h1⟩ := hd.one
    cases h1 with | str _ f =>
    obtain ⟨u1, rfl, t, rfl⟩ := vals1 rv
    refine call_tuple_str (I.ok.hd hc) _ t (fun h' tk acc hk hacc => ?_) f.1
    have J : Inv X pins σ H { s with heap := h' } := I.kept (t' := s.toks) hk
    have vv := vals_chars hacc
    exact new_tpl (s := s) (tk := tk) J (by rw [List.length_map, Array.length_toList]; exact f.1) vv rfl ⟨0, by simp⟩ rfl (q.tup z (rp_chars f))
  · cases e; obtain ⟨v1, rfl, h1⟩ := hd.one
    obtain ⟨a, ys, rfl, ha, ra⟩ := h1
    exact call_list_of pins s σ H _ us Q I rv ⟨a, ys, rfl, .inl ha, q.lst z ra⟩
  · cases e; obtain ⟨v1, rfl, h1⟩ := hd.one
    obtain ⟨a, ys, rfl, ha, ra⟩ := h1.tup
    exact call_list_of pins s σ H _ us Q I rv ⟨a, ys, rfl, .inr ha, q.lst z ra⟩
  · cases e; obtain ⟨v1, rfl, h1⟩ := hd.one
    cases h1 with | str _ f =>
    obtain ⟨u1, rfl, t, rfl⟩ := vals1 rv
    refine call_list_str (I.ok.hd hc) _ t (hn := f.1) fun h' tk acc c' hk hS hacc => ?_
    have vv := vals_chars hacc
    exact ⟨.ref _, upd H s.heap.objs.size (.lst _), I.laid (t' := tk) hk (Nat.le_refl _) ⟨by rw [List.length_map, Array.length_toList]; exact f.1, acc.toList, c', vv, by simpa using hS⟩, rfl, q.lst z (rp_chars f) _ (I.hok.fresh (Nat.le_refl _))⟩
  · cases e; obtain ⟨v1, rfl, h1⟩ := hd.one; cases h1
    exact call_int1 pins s σ H _ us Q I rv (.inl ⟨_, rfl, q.int z⟩)
  · cases e; obtain ⟨v1, rfl, h1⟩ := hd.one; cases h1
    exact call_int1 pins s σ H _ us Q I rv (.inr ⟨_, rfl, q.int z⟩)
  · split at e
    · rename_i hg
      cases e; obtain ⟨v1, rfl, h1⟩ := hd.one
      cases h1 with | str _ f =>
      simp only [digB, Bool.and_eq_true, Bool.not_eq_true', decide_eq_true_eq] at hg
      refine call_int_str pins s σ H _ us Q I rv ⟨_, _, rfl, intText_digits (fun c hc => ?_) (fun e => ?_) ?_, ?_, q.int z⟩
      · have w := List.all_eq_true.mp hg.2 c hc
        rw [Bool.and_eq_true, decide_eq_true_eq, decide_eq_true_eq] at w
        exact w
      · rw [e] at hg; simp at hg
      · have := hg.1.2; rw [Array.length_toList] at this; exact Nat.le_trans this (by omega)
      · have := hg.1.2; rw [Array.length_toList] at this; exact Nat.le_trans this (by omega)
    · cases e
  · cases e
end
end Rf
end

-- text RfK
section
set_option Elab.async false
set_option linter.all false
set_option maxRecDepth 100000
set_option maxHeartbeats 1000000
/-! RfK: whether a text is the term. -/
namespace Rf
open PySem L2

structure Ck where
  N : List Str
  sc : Scope
  fn : Str → Bool
  fns : List Str
  gls : List Str
  exn : List Str
  exp : List Nat

def visB (sc : Scope) (x : Str) : Bool := match sc.names.lookup x with
  | some .local => true
  | some .cell => true
  | some .free => true
  | _ => false
def locB (sc : Scope) (x : Str) : Bool := match sc.names.lookup x with
  | some .local => true
  | some .cell => true
  | _ => false
def glB (sc : Scope) (x : Str) : Bool := (match sc.names.lookup x with
  | some .globalImplicit => true
  | _ => false) && !(x == ("__debug__" : Str))

def Blt.nm : Blt → Str
  | .len => "len" | .abs => "abs" | .max => "max" | .min => "min" | .sum => "sum" | .all => "all" | .any => "any"
  | .sorted => "sorted" | .tuple => "tuple" | .list => "list" | .int => "int" | .str => "str" | .range => "range" | .set => "set" | .dict => "dict"
def Mth.nm : Mth → Str
  | .append => "append" | .extend => "extend" | .pop => "pop" | .remove => "remove" | .insert => "insert" | .get => "get" | .items => "items" | .join => "join" | .split => "split"
  | .replace => "replace" | .startswith => "startswith" | .endswith => "endswith" | .index => "index" | .count => "count"
def Ty.nm : Ty → Str
  | .int => "int" | .bool => "bool" | .str => "str" | .tuple => "tuple" | .list => "list"

def Ty.tn : Ty → String
  | .int => "int" | .bool => "bool" | .str => "str" | .tuple => "tuple" | .list => "list"
def mthB : Mth → Bool
  | .startswith | .endswith | .index | .join | .split => true
  | _ => false
def recvB : Expr → Bool
  | .Call _ [] [] _ => false
  | _ => true
def cmpEq (a b : CmpOp) : Bool := a == b
def opEq (a b : Operator) : Bool := a == b

def chkN (C : Ck) (i : Nat) (y : Str) : Bool := decide (C.N[i]? = some y)
def chkSt (C : Ck) (i : Nat) (y : Str) : Bool := chkN C i y && locB C.sc y && (C.fn y || (match C.sc.names.lookup y with | some .local => true | _ => false))
mutual
def chkTg (C : Ck) : Tg → Expr → Bool
  | .nm i, x => match x with
    | .Name y _ => chkSt C i y
    | _ => false
  | .tp ts, x => match x with
    | .Tuple xs _ _ => chkTgs C ts xs
    | _ => false
def chkTgs (C : Ck) : Tgs → List Expr → Bool
  | .nil, x => match x with
    | [] => true
    | _ => false
  | .cons t r, x => match x with
    | y :: ys => chkTg C t y && chkTgs C r ys
    | _ => false
end

def isStar : Expr → Bool
  | .Starred _ _ => true
  | _ => false
def isSlice : Expr → Bool
  | .Slice _ _ _ _ => true
  | _ => false
def isSet : Expr → Bool
  | .Set _ _ _ => true
  | _ => false
def isTupE : Expr → Bool
  | .Tuple _ _ _ => true
  | _ => false
def plainT : Expr → Bool
  | .UnaryOp .Not _ _ => false
  | .BoolOp _ _ _ => false
  | .IfExp _ _ _ _ => false
  | .Compare _ _ _ _ => false
  | _ => true
def isCmp : E → Bool
  | .cmp _ _ _ => true
  | .chn _ _ _ _ _ => true
  | .tin _ _ _ => true
  | _ => false
def ownN (C : Ck) (own : List Nat) : List (Str × Nat) := own.map fun i => (C.N.getD i "", i)
def blkCk (C : Ck) (scope : Scope) : Ck := { C with sc := relS scope C.sc, fn := fun x => scope.names.lookup x == some .cell }

mutual
def chkE (C : Ck) : E → Expr → Bool
  | .var i, x => match x with
    | .Name y _ => chkN C i y && visB C.sc y && !(y == ("__debug__" : Str)) && !(y == ("__classdict__" : Str))
    | _ => false
  | .int n, x => match x with
    | .Constant (.int m) _ _ => decide (n = m)
    | _ => false
  | .bl b, x => match x with
    | .Constant (.bool c) _ _ => b == c
    | _ => false
  | .non, x => match x with
    | .Constant .none _ _ => true
    | _ => false
  | .str s, x => match x with
    | .Constant (.str t) _ _ => decide (s = t) && sizeOk s.length && PyData.strOk s
    | _ => false
  | .gbl n, x => match x with
    | .Name y _ => decide (C.gls[n]? = some y) && glB C.sc y
    | _ => false
  | .any, x => !isStar x && (!isSlice x && !isSet x)
  | .gix n k, x => match x with
    | .Subscript (.Name y _) z _ => decide (C.gls[n]? = some y) && glB C.sc y && chkE C k z
    | _ => false
  | .rev a, x => match x with
    | .Subscript y (.Slice none none (some (.UnaryOp .USub (.Constant (.int 1) _ _) _)) _) _ => chkE C a y
    | _ => false
  | .dsp es, x => match x with
    | .Dict ks vs _ => chkPs C es ks vs && !ks.isEmpty && decide (ks.length ≤ 15)
    | _ => false
  | .mmd b a y, x => match x with
    | .Call (.Name z _) [u] [⟨some k, v, _⟩] _ => (match b with | .max => true | .min => true | _ => false) && decide (b.nm = z) && glB C.sc z && decide (k = "default") && chkE C a u && chkE C y v
    | _ => false
  | .bin o a b, x => match x with
    | .BinOp l p r _ => opEq o p && chkE C a l && chkE C b r
    | _ => false
  | .neg a, x => match x with
    | .UnaryOp .USub y _ => chkE C a y
    | _ => false
  | .not a, x => match x with
    | .UnaryOp .Not y _ => chkE C a y
    | _ => false
  | .cmp o a b, x => match x with
    | .Compare l [p] [r] _ => cmpEq o p && chkE C a l && chkE C b r && !behindInMarks o r
    | _ => false
  | .chn o p a b c, x => match x with
    | .Compare l [o', p'] [m, r] _ => cmpEq o o' && cmpEq p p' && chkE C a l && chkE C b m && chkE C c r && !lastMarks [o, p] [m, r]
    | _ => false
  | .and es, x => match x with
    | .BoolOp .And xs _ => chkEs C es xs
    | _ => false
  | .or es, x => match x with
    | .BoolOp .Or xs _ => chkEs C es xs
    | _ => false
  | .ite c a b, x => match x with
    | .IfExp t u v _ => chkT C c t && chkE C a u && chkE C b v
    | _ => false
  | .tup es, x => match x with
    | .Tuple xs _ _ => chkEs C es xs
    | _ => false
  | .lst es, x => match x with
    | .List xs _ => chkEs C es xs
    | _ => false
  | .idx a i, x => match x with
    | .Subscript y z _ => chkE C a y && chkE C i z
    | _ => false
  | .slc a lo hi, x => match x with
    | .Subscript y (.Slice l h none _) _ => chkE C a y && chkO C lo l && chkO C hi h
    | _ => false
  | .app f es, x => match x with
    | .Call (.Name y _) xs [] _ => decide (C.fns[f]? = some y) && glB C.sc y && chkEs C es xs
    | _ => false
  | .blt b es, x => match x with
    | .Call (.Name y _) (z :: zs) [] _ => decide (b.nm = y) && glB C.sc y && chkEs C es (z :: zs)
    | _ => false
  | .mut m i es, x => match x with
    | .Call (.Attribute (.Name y _) at_ apos) (z :: zs) [] cpos => (match m with | .append => true | .extend => true | _ => false) && decide (m.nm = at_) && chkN C i y && visB C.sc y && !(y == ("__debug__" : Str)) && !(y == ("__classdict__" : Str)) && chkEs C es (z :: zs)
        && (apos.endLine == cpos.line) && decide ((z :: zs).length < 30)
    | _ => false
  | .mth m o es, x => match x with
    | .Call (.Attribute y at_ apos) (z :: zs) [] cpos => mthB m && decide (m.nm = at_) && recvB y && chkE C o y && chkEs C es (z :: zs) && (apos.endLine == cpos.line) && decide ((z :: zs).length < 30)
    | _ => false
  | .isi a t, x => match x with
    | .Call (.Name y _) [z, .Name u _] [] _ => decide (y = "isinstance") && glB C.sc y && chkE C a z && decide (t.nm = u) && glB C.sc u
    | _ => false
  | .cpr e t it c own, x => match x with
    | .ListComp elt [⟨tg, iter, ifs, as_⟩] scope _ => decide (as_ = 0) && (tgs t).all (fun i => own.contains i) && chkI C (isTupE tg) it iter && blkC C.N C.sc scope (ownN C own) && chkTg (blkCk C scope) t tg && chkOt (blkCk C scope) c ifs && chkE (blkCk C scope) e elt
    | _ => false
  | .dnew, x => match x with
    | .Dict [] [] _ => true
    | _ => false
  | .dcp k v t it c own, x => match x with
    | .DictComp kx vx [⟨tg, iter, ifs, as_⟩] scope _ => decide (as_ = 0) && (tgs t).all (fun i => own.contains i) && chkI C (isTupE tg) it iter && blkC C.N C.sc scope (ownN C own) && chkTg (blkCk C scope) t tg && chkOt (blkCk C scope) c ifs && chkE (blkCk C scope) k kx && chkE (blkCk C scope) v vx
    | _ => false
  | .dget i k y, x => match x with
    | .Call (.Attribute (.Name z _) at_ apos) [u, w] [] cpos => decide (at_ = "get") && chkN C i z && visB C.sc z && !(z == ("__debug__" : Str)) && !(z == ("__classdict__" : Str)) && chkE C k u && chkE C y w && (apos.endLine == cpos.line)
    | _ => false
  | .cp2 e t it c t1 it1 c1 own own1, x => match x with
    | .ListComp elt [⟨tg, iter, ifs, as_⟩, ⟨tg1, iter1, ifs1, as1⟩] scope _ => decide (as_ = 0) && decide (as1 = 0) && (tgs t).all (fun i => own.contains i) && (tgs t1).all (fun i => own1.contains i) && own1.all (fun i => own.contains i)
        && chkI C (isTupE tg) it iter && blkC C.N C.sc scope (ownN C own) && chkTg (blkCk C scope) t tg && chkOt (blkCk C scope) c ifs && chkI (blkCk C scope) (isTupE tg1) it1 iter1 && chkTg (blkCk C scope) t1 tg1 && chkOt (blkCk C scope) c1 ifs1 && chkE (blkCk C scope) e elt
    | _ => false
  | .tnew, x => match x with
    | .Dict [] [] _ => true
    | _ => false
  | .pop i, x => match x with
    | .Call (.Attribute (.Name z _) at_ apos) [] [] cpos => decide (at_ = "pop") && chkN C i z && visB C.sc z && !(z == ("__debug__" : Str)) && !(z == ("__classdict__" : Str)) && (apos.endLine == cpos.line)
    | _ => false
  | .dct a, x => match x with
    | .Call (.Name y _) [z] [] _ => decide (y = "dict") && glB C.sc y && chkE C a z
    | _ => false
  | .dgx d k y, x => match x with
    | .Call (.Attribute (.Dict ks vs pd) at_ apos) [u, w] [] cpos => decide (at_ = "get") && chkE C d (.Dict ks vs pd) && chkE C k u && chkE C y w && (apos.endLine == cpos.line)
    | _ => false
  | .tmi o a, x => match x with
    | .Call (.Attribute y at_ apos) [z] [] cpos => decide (at_ = "index") && recvB y && chkE C o y && chkE C a z && (apos.endLine == cpos.line)
    | _ => false
  | .tin ng k i, x => match x with
    | .Compare l [p] [.Name z _] _ => cmpEq (if ng then .NotIn else .In) p && chkE C k l && chkN C i z && visB C.sc z && !(z == ("__debug__" : Str)) && !(z == ("__classdict__" : Str))
    | _ => false
  | .tix i k, x => match x with
    | .Subscript (.Name z _) y _ => chkN C i z && visB C.sc z && !(z == ("__debug__" : Str)) && !(z == ("__classdict__" : Str)) && chkE C k y
    | _ => false
  | .tget i k y, x => match x with
    | .Call (.Attribute (.Name z _) at_ apos) [u, w] [] cpos => decide (at_ = "get") && chkN C i z && visB C.sc z && !(z == ("__debug__" : Str)) && !(z == ("__classdict__" : Str)) && chkE C k u && chkE C y w && (apos.endLine == cpos.line)
    | _ => false
def chkEs (C : Ck) : Es → List Expr → Bool
  | .nil, x => match x with
    | [] => true
    | _ => false
  | .cons e r, x => match x with
    | y :: ys => chkE C e y && chkEs C r ys
    | _ => false
def chkPs (C : Ck) : Es → List (Option Expr) → List Expr → Bool
  | .nil, ks, vs => ks.isEmpty && vs.isEmpty
  | .cons _ .nil, _, _ => false
  | .cons k (.cons v r), ks, vs => match ks, vs with
    | some x :: xs, y :: ys => chkE C k x && chkE C v y && chkPs C r xs ys
    | _, _ => false
def chkO (C : Ck) : Oe → Option Expr → Bool
  | .no, x => match x with
    | none => true
    | _ => false
  | .yes e, x => match x with
    | some y => chkE C e y
    | _ => false
def chkI (C : Ck) (tup : Bool) : Itr → Expr → Bool
  | .seq e, x => chkE C e x
  | .rng es, x => match x with
    | .Call (.Name y _) xs [] _ => decide (xs.length ≤ 3) && decide (y = "range") && glB C.sc y && chkEs C es xs
    | _ => false
  | .enu e, x => match x with
    | .Call (.Name y _) [z] [] _ => decide (y = "enumerate") && glB C.sc y && chkE C e z && tup
    | _ => false
  | .zip a b, x => match x with
    | .Call (.Name y _) [u, v] [] _ => decide (y = "zip") && glB C.sc y && chkE C a u && chkE C b v && tup
    | _ => false
  | .zpm a b, x => match x with
    | .Call (.Name y _) [u, v] [] _ => decide (y = "zip") && glB C.sc y && chkE C a u && chkE C b v && tup
    | _ => false
  | .kys i, x => match x with
    | .Name z _ => chkN C i z && visB C.sc z && !(z == ("__debug__" : Str)) && !(z == ("__classdict__" : Str))
    | _ => false
def chkT (C : Ck) : T → Expr → Bool
  | .val e, x => chkE C e x && (plainT x || isCmp e)
  | .and ts, x => match x with
    | .BoolOp .And xs _ => chkTs C ts xs
    | _ => false
  | .or ts, x => match x with
    | .BoolOp .Or xs _ => chkTs C ts xs
    | _ => false
  | .not t, x => match x with
    | .UnaryOp .Not y _ => chkT C t y
    | _ => false
  | .any, _ => true
def chkTs (C : Ck) : Ts → List Expr → Bool
  | .one t, x => match x with
    | [y] => chkT C t y
    | _ => false
  | .cons t r, x => match x with
    | y :: z :: ys => chkT C t y && chkTs C r (z :: ys)
    | _ => false
def chkOt (C : Ck) : Ot → List Expr → Bool
  | .no, x => match x with
    | [] => true
    | _ => false
  | .yes t, x => match x with
    | [y] => chkT C t y
    | _ => false
end

/-! ### what the look tells -/
set_option maxHeartbeats 4000000
theorem chkE_nostar {C : Ck} {e : E} {x : Expr} (h : chkE C e x = true) : isStar x = false := by
  cases x <;> first | rfl | (cases e <;> simp [chkE, isStar, isSlice, isSet] at h)
theorem chkE_noslice {C : Ck} {e : E} {x : Expr} (h : chkE C e x = true) : isSlice x = false := by
  cases x <;> first | rfl | (cases e <;> simp [chkE, isStar, isSlice, isSet] at h)
theorem chkE_noset {C : Ck} {e : E} {x : Expr} (h : chkE C e x = true) : isSet x = false := by
  cases x <;> first | rfl | (cases e <;> simp [chkE, isStar, isSlice, isSet] at h)
theorem chkI_noset {C : Ck} {b : Bool} {e : Itr} {x : Expr} (h : chkI C b e x = true) : isSet x = false := by
  cases e with
  | seq e => exact chkE_noset (by simpa [chkI] using h)
  | _ => cases x <;> first | rfl | simp [chkI] at h
theorem folded_plain {x : Expr} (h : isSet x = false) (env : Env) : ∀ v, foldedSetIterable x env v = pure v := fun v => by
  cases x <;> first | rfl | (simp [isSet] at h)
theorem star_plain {x : Expr} (h : isStar x = false) (xs : List Expr) (env : Env) : starEach (x :: xs) env = (false, eval x env) :: starEach xs env := by
  cases x <;> first | rfl | (simp [isStar] at h)
theorem ix_plain {x : Expr} (h : isSlice x = false) : PlainIx x := fun o i => by
  cases x <;> first | rfl | (simp [isSlice] at h)
theorem chkEs_plain {C : Ck} : ∀ {es : Es} {xs : List Expr} (env : Env) (pos : Pos), chkEs C es xs = true → (backTo pos (starEach xs env)).any (·.1) = false
  | .nil, [], _, _, _ => rfl
  | .nil, _ :: _, _, _, h => by simp [chkEs] at h
  | .cons _ _, [], _, _, h => by simp [chkEs] at h
  | .cons e r, y :: ys, env, pos, h => by
    simp only [chkEs, Bool.and_eq_true] at h
    rw [star_plain (chkE_nostar h.1)]
    have ih := chkEs_plain env pos h.2
    unfold backTo at ih ⊢
    simp only [List.map_cons, List.any_cons, Bool.or_eq_false_iff]
    simpa using ih
end Rf
end

-- text RfD
section
set_option Elab.async false
set_option linter.all false
set_option maxRecDepth 100000
set_option maxHeartbeats 1000000
/-! RfD: the terms are sound: what the small language reckons the model does. -/
namespace Rf
open PySem PySem.Spec PyProof.Rows L2

/-- the written part, how exceptions lie, what is wanted of them, the machine -/
structure Sx where
  K : PySem.W.Frag
  XR : Nat → Option D → Value → Option Addr → Hp → (Addr → Prop) → Prop
  W : WX
  M : Mach
/-- no slot is lost -/
def Kp (env env' : En) : Prop := env'.length = env.length ∧ ∀ i, (slot env i).isSome = true → (slot env' i).isSome = true
theorem Kp.refl {env : En} : Kp env env := ⟨rfl, fun _ h => h⟩
theorem Kp.trans {e0 e1 e2 : En} (a : Kp e0 e1) (b : Kp e1 e2) : Kp e0 e2 := ⟨b.1.trans a.1, fun i h => b.2 i (a.2 i h)⟩
theorem Kp.set {env : En} {i : Nat} {s : Sv} : Kp env (env.set i (some s)) := by
  refine ⟨by simp, fun j h => ?_⟩
  by_cases hi : i < env.length
  · rw [slot_set hi]
    split
    · rfl
    · exact h
  · rw [List.set_eq_of_length_le (by omega)]
    exact h

section
variable {α β γ δ : Type}
abbrev Tp (α β : Type) := α → β → Hp → (Addr → Prop) → En → List Addr → Prop
/-- what is wanted behind a term; fx: what stands by itself meanwhile -/
def Po (S : Sx) (σ : L2.St) (H : Hp) (Z : Addr → Prop) (env : En) (fp : Nat → List Addr) (fx : List Addr) (T : Tp α β) (Q : β → Hp → Prop) : R (α × En) → Prop
  | .ok (a, env') => ∀ b H' Z' fp' fr, Step H Z (Owr fp fx) H' Z' (Owr fp' fr) → Kp env env' → Rel S.K H' Z' env' σ fp' → T a b H' Z' env' fr → (∀ x ∈ fr, ¬ Ow fp' x) → Q b H'
  | .exc c p env' => ∀ cls d H' Z' fp', Step H Z (Owr fp fx) H' Z' (Ow fp') → Kp env env' → Rel S.K H' Z' env' σ fp' → S.XR c p cls d H' Z' → S.W cls d σ H'
  | .no => False
variable {S : Sx} {σ : L2.St} {H H1 : Hp} {Z Z1 : Addr → Prop} {env e1 : En} {fp fp1 : Nat → List Addr} {fx fx1 fr1 : List Addr} {T : Tp α β} {T1 : Tp γ δ} {Q : β → Hp → Prop} {Q1 : δ → Hp → Prop}
theorem ow_owr {fp : Nat → List Addr} {fr : List Addr} {a : Addr} (h : Ow fp a) : Owr fp fr a := .inl h
theorem Step.ow {H H' : Hp} {Z Z' O : Addr → Prop} {fp : Nat → List Addr} {fr : List Addr} (s : Step H Z O H' Z' (Owr fp fr)) : Step H Z O H' Z' (Ow fp) := s.weak (fun _ h => h) fun _ h => .inl (.inl h)
theorem Step.owr {H H' : Hp} {Z Z' O : Addr → Prop} {fp : Nat → List Addr} (s : Step H Z O H' Z' (Ow fp)) : Step H Z O H' Z' (Owr fp []) := s.weak (fun _ h => h) fun _ h => .inl (h.elim (fun h => h) fun h => by simp at h)
/-- beside what else is owned -/
theorem Step.more {H H' : Hp} {Z Z' : Addr → Prop} {fp fp' : Nat → List Addr} {fx fr : List Addr} (s : Step H Z (Ow fp) H' Z' (Owr fp' fr)) : Step H Z (Owr fp fx) H' Z' (Owr fp' (fx ++ fr)) :=
  s.weak (fun _ h => .inl h) fun x h => h.elim (fun h => .inl (.inl h)) fun h => (List.mem_append.mp h).elim (fun h => .inr (.inl (.inr h))) fun h => .inl (.inr h)
theorem Po.adv {r : R (α × En)} (h : Po S σ H Z env fp fx T Q r) (st : Step H Z (Owr fp fx) H1 Z1 (Owr fp1 fx1)) (kp : Kp env e1) : Po S σ H1 Z1 e1 fp1 fx1 T Q r := by
  cases r with
  | ok x =>
    obtain ⟨a, env'⟩ := x
    exact fun b H' Z' fp' fr s2 k2 rel t ap => h b H' Z' fp' fr (st.trans s2) (kp.trans k2) rel t ap
  | exc c p env' => exact fun cls d H' Z' fp' s2 k2 rel x => h cls d H' Z' fp' (st.trans s2) (kp.trans k2) rel x
  | no => exact h
theorem Po.seq {r : R (γ × En)} {g : γ × En → R (α × En)} (h : Po S σ H Z env fp fx T Q (r.bind g))
    (k : ∀ a e1 b H1 Z1 fp1 fr1, Step H Z (Ow fp) H1 Z1 (Owr fp1 fr1) → Kp env e1 → Rel S.K H1 Z1 e1 σ fp1 → T1 a b H1 Z1 e1 fr1 → (∀ x ∈ fr1, ¬ Ow fp1 x) → Po S σ H1 Z1 e1 fp1 (fx ++ fr1) T Q (g (a, e1)) → Q1 b H1) : Po S σ H Z env fp [] T1 Q1 r := by
  cases r with
  | ok x =>
    obtain ⟨a, env'⟩ := x
    intro b H' Z' fp' fr st kp rel t ap
    have st' : Step H Z (Ow fp) H' Z' (Owr fp' fr) := st.weak (fun _ h => h.elim (fun h => h) fun h => by simp at h) fun _ h => .inl h
    exact k a env' b H' Z' fp' fr st' kp rel t ap (Po.adv h st'.more kp)
  | exc c p env' =>
    intro cls d H' Z' fp' st kp rel x
    exact h cls d H' Z' fp' (st.weak (fun _ h => h.elim .inl fun h => by simp at h) fun _ h => .inl h) kp rel x
  | no => exact h
theorem Po.opt {ε : Type} {o : Option ε} {g : ε → R (α × En)} (h : Po S σ H Z env fp fx T Q ((R.opt o).bind g)) : ∃ x, o = some x ∧ Po S σ H Z env fp fx T Q (g x) := by
  cases o with
  | none => exact h.elim
  | some x => exact ⟨x, rfl, h⟩
/-- a term that changes nothing but by new objects -/
theorem Po.now {a : α} {b : β} {H' : Hp} {Z' : Addr → Prop} {fr : List Addr} (h : Po S σ H Z env fp fx T Q (.ok (a, env))) (rel : Rel S.K H Z env σ fp) (g : Grow H Z H' Z') (z : Zok H' Z') (hf : ∀ x ∈ fr, H x = none) (t : T a b H' Z' env fr) : Q b H' :=
  h b H' Z' fp fr (g.step.weak (fun _ h => h) fun x q => q.elim (fun q => .inl (.inl q)) fun q => .inr (.inr (hf x q))) .refl (rel.grow g z) t fun x hx o => (rel.owned o).2 (hf x hx)
/-- a value that stood by itself -/
theorem Po.here {a : α} {b : β} {fr : List Addr} (h : Po S σ H Z env fp fx T Q (.ok (a, env))) (rel : Rel S.K H Z env σ fp) (hf : ∀ x ∈ fr, x ∈ fx) (ap : ∀ x ∈ fr, ¬ Ow fp x) (t : T a b H Z env fr) : Q b H :=
  h b H Z fp fr (Step.refl.weak (fun _ h => h) fun x q => q.elim (fun q => .inl (.inl q)) fun q => .inl (.inr (hf x q))) .refl rel t ap
end

def tE (S : Sx) (σ : L2.St) : Tp Rv V := fun r v H' Z' env' fr => RvR S.K H' Z' env' σ r v fr
def tT : Tp Bool Bool := fun k b _ _ _ fr => b = k ∧ fr = []
def tDs (S : Sx) : Tp (List D) (List V) := fun ds vs H' Z' _ fr => RpAll S.K H' Z' vs ds ∧ fr = []
/-- the values of arguments, each with what it owns by itself -/
def RvAll (K : PySem.W.Frag) (H : Hp) (Z : Addr → Prop) (env : En) (σ : L2.St) : List Rv → List V → List Addr → Prop
  | [], vs, f => vs = [] ∧ f = []
  | r :: rs, vs, f => ∃ v vs' f1 f2, vs = v :: vs' ∧ f = f1 ++ f2 ∧ RvR K H Z env σ r v f1 ∧ RvAll K H Z env σ rs vs' f2 ∧ ∀ a ∈ f1, a ∉ f2
def tA (S : Sx) (σ : L2.St) : Tp (List Rv) (List V) := fun rs vs H' Z' env' fr => RvAll S.K H' Z' env' σ rs vs fr
def tO : Tp (Option Int) (Option Int) := fun o p _ _ _ fr => p = o ∧ fr = []
/-- what changes no more stands -/
def Pers (H0 : Hp) (Z0 : Addr → Prop) (H : Hp) (Z : Addr → Prop) : Prop := (∀ a, Z0 a → Z a) ∧ ∀ a o, Z0 a → H0 a = some o → H a = some o
theorem Pers.refl {H : Hp} {Z : Addr → Prop} : Pers H Z H Z := ⟨fun _ h => h, fun _ _ _ h => h⟩
theorem Pers.trans {H0 H1 H2 : Hp} {Z0 Z1 Z2 : Addr → Prop} (a : Pers H0 Z0 H1 Z1) (b : Pers H1 Z1 H2 Z2) : Pers H0 Z0 H2 Z2 :=
  ⟨fun x h => b.1 x (a.1 x h), fun x o z h => b.2 x o (a.1 x z) (a.2 x o z h)⟩
theorem Step.pers {H H' : Hp} {Z O Z' O' : Addr → Prop} (s : Step H Z O H' Z' O') (hzo : ∀ a, Z a → ¬ O a) : Pers H Z H' Z' := ⟨s.mono, fun a o z e => (s.keep a o e (hzo a z)).1⟩
theorem Grow.pers {H H' : Hp} {Z Z' : Addr → Prop} (g : Grow H Z H' Z') : Pers H Z H' Z' := ⟨g.mono, fun a o _ e => (g.keep a o e).1⟩
theorem RpAll.pers {K : PySem.W.Frag} {H H' : Hp} {Z Z' : Addr → Prop} {vs : List V} {ds : List D} (r : RpAll K H Z vs ds) (p : Pers H Z H' Z') : RpAll K H' Z' vs ds := r.mono p.1 p.2
theorem Rp.pers {K : PySem.W.Frag} {H H' : Hp} {Z Z' : Addr → Prop} {v : V} {d : D} (r : Rp K H Z v d) (p : Pers H Z H' Z') : Rp K H' Z' v d := r.mono p.1 p.2
/-- what is walked gives these data -/
def WalkD (K : PySem.W.Frag) (J : It) (xs : List D) (H0 : Hp) (Z0 : Addr → Prop) : Prop :=
  ∃ (G : Hp → Prop) (Y : Nat → Hp → V → Hp → Prop), Walk J xs.length G Y ∧ (∀ H Z, Pers H0 Z0 H Z → G H) ∧
    ∀ i H Z v H1, Pers H0 Z0 H Z → Zok H Z → i < xs.length → Y i H v H1 → ∃ d Z1, xs[i]? = some d ∧ Grow H Z H1 Z1 ∧ Zok H1 Z1 ∧ Rp K H1 Z1 v d
def tI (S : Sx) : Tp (List D) It := fun xs J H' Z' _ fr => WalkD S.K J xs H' Z' ∧ fr = []

def rdE (S : Sx) (e : E) : TE := fun σ H Q => ∃ Z env fp, Rel S.K H Z env σ fp ∧ Po S σ H Z env fp [] (tE S σ) Q (evE S.M e env)
def rdT (S : Sx) (t : T) : TT := fun σ H Q => ∃ Z env fp, Rel S.K H Z env σ fp ∧ Po S σ H Z env fp [] tT Q (evT S.M t env)
def rdDs (S : Sx) (es : Es) : TA := fun σ H Q => ∃ Z env fp, Rel S.K H Z env σ fp ∧ Po S σ H Z env fp [] (tDs S) Q (evDs S.M es env)
def rdA (S : Sx) (es : Es) : TA := fun σ H Q => ∃ Z env fp, Rel S.K H Z env σ fp ∧ Po S σ H Z env fp [] (tA S σ) Q (evA S.M es env)
def rdO (S : Sx) (e : Oe) : TO := fun σ H Q => ∃ Z env fp, Rel S.K H Z env σ fp ∧ Po S σ H Z env fp [] tO Q (evO S.M e env)
def rdI (S : Sx) (it : Itr) : TI := fun σ H Q => ∃ Z env fp, Rel S.K H Z env σ fp ∧ Po S σ H Z env fp [] (tI S) Q (evI S.M it env)
def rdTA (S : Sx) (ts : Ts) : TT := fun σ H Q => ∃ Z env fp, Rel S.K H Z env σ fp ∧ Po S σ H Z env fp [] tT Q (evTA S.M ts env)
def rdTO (S : Sx) (ts : Ts) : TT := fun σ H Q => ∃ Z env fp, Rel S.K H Z env σ fp ∧ Po S σ H Z env fp [] tT Q (evTO S.M ts env)
def rdOt (S : Sx) (t : Ot) : TT := fun σ H Q => ∃ Z env fp, Rel S.K H Z env σ fp ∧ Po S σ H Z env fp [] tT Q (evOt S.M t env)
def rdAnd (S : Sx) (es : Es) : TE := fun σ H Q => ∃ Z env fp, Rel S.K H Z env σ fp ∧ Po S σ H Z env fp [] (tE S σ) Q (evAnd S.M es env)
def rdOr (S : Sx) (es : Es) : TE := fun σ H Q => ∃ Z env fp, Rel S.K H Z env σ fp ∧ Po S σ H Z env fp [] (tE S σ) Q (evOr S.M es env)

theorem _root_.L2.PE.imp {X : Cx} {x : Expr} {t t' : TE} (h : PE X x t) (i : ∀ σ H Q, t' σ H Q → t σ H Q) : PE X x t' := ⟨fun pins s σ H Q I q => h.run pins s σ H Q I (i σ H Q q)⟩
theorem _root_.L2.PT.imp {X : Cx} {x : Expr} {t t' : TT} (h : PT X x t) (i : ∀ σ H Q, t' σ H Q → t σ H Q) : PT X x t' := ⟨fun pins s σ H Q I q => h.run pins s σ H Q I (i σ H Q q)⟩
theorem _root_.L2.PW.imp {X : Cx} {x : Expr} {t t' : TT} (h : PW X x t) (i : ∀ σ H Q, t' σ H Q → t σ H Q) : PW X x t' := ⟨fun wh pins s σ H Q I q => h.run wh pins s σ H Q I (i σ H Q q)⟩
theorem _root_.L2.PA.imp {X : Cx} {x : List Expr} {t t' : TA} (h : PA X x t) (i : ∀ σ H Q, t' σ H Q → t σ H Q) : PA X x t' := ⟨fun pos pins s σ H Q I q => h.run pos pins s σ H Q I (i σ H Q q)⟩
theorem _root_.L2.PO.imp {X : Cx} {x : Option Expr} {t t' : TO} (h : PO X x t) (i : ∀ σ H Q, t' σ H Q → t σ H Q) : PO X x t' := ⟨fun pins s σ H Q I q => h.run pins s σ H Q I (i σ H Q q)⟩
theorem _root_.L2.PI.imp {X : Cx} {tg x : Expr} {t t' : TI} (h : PI X tg x t) (i : ∀ σ H Q, t' σ H Q → t σ H Q) : PI X tg x t' := ⟨fun pins s σ H Q I q => h.run pins s σ H Q I (i σ H Q q)⟩

section
variable {S : Sx} {σ : L2.St} {H H1 H2 : Hp} {Z Z1 Z2 : Addr → Prop} {env e1 e2 : En} {fp fp1 fp2 : Nat → List Addr} {Q : VK}
/-- a value is kept while the next one is reckoned -/
theorem RvR.keep {r : Rv} {v : V} {fr fr2 : List Addr} (q : RvR S.K H1 Z1 e1 σ r v fr) (rel : Rel S.K H1 Z1 e1 σ fp1) (ap : ∀ x ∈ fr, ¬ Ow fp1 x) (st : Step H1 Z1 (Ow fp1) H2 Z2 (Owr fp2 fr2)) (kp : Kp e1 e2) : RvR S.K H2 Z2 e2 σ r v fr :=
  q.step st rel.zo ap kp.2
def okRv : Rv → Prop
  | .dat _ => True
  | .tl _ => True
  | _ => False
theorem RvR.there {r : Rv} {v : V} {fr : List Addr} (q : RvR S.K H1 Z1 e1 σ r v fr) : ∀ a ∈ fr, H1 a ≠ none := fun a ha => by
  cases r with
  | dat _ => rw [q.2] at ha; simp at ha
  | tl ds => exact (SvR.owned (s := .lst ds) q a ha).2
  | td kvs => exact (SvR.owned (s := .dct kvs) q a ha).2
  | tt kvs => exact (SvR.owned (s := .dtt kvs) q a ha).2
  | plc _ => rw [q.2.2] at ha; simp at ha
/-- an operation's end -/
theorem Po.post {r : Rv} {fx : List Addr} (h : Po S σ H Z env fp fx (tE S σ) Q (.ok (r, env))) (rel : Rel S.K H Z env σ fp) (hr : okRv r) : PostR S.K H Z Q r := by
  cases r with
  | dat d => exact fun v H' Z' g z hv => h.now rel g z (fr := []) (by simp) ⟨hv, rfl⟩
  | tl ds => exact fun a vs H' Z' g z n e hv nz => h.now rel g z (fr := [a]) (by simpa using n) ⟨a, vs, rfl, rfl, e, hv, nz⟩
  | td _ => exact hr.elim
  | tt _ => exact hr.elim
  | plc _ => exact hr.elim
theorem binD_kind {o : Operator} {x y : D} {r : Rv} (h : binD o x y = some r) : okRv r := by
  unfold binD at h
  split at h
  all_goals first | (cases h; trivial) | cases h | (split at h <;> first | (cases h; trivial) | cases h)
theorem slcD_kind {x : D} {lo hi : Option Int} {r : Rv} (h : slcD x lo hi = some r) : okRv r := by
  unfold slcD at h
  split at h
  all_goals first | (cases h; trivial) | cases h
theorem bltD_kind {b : Blt} {ds : List D} {r : Rv} (h : bltD b ds = some r) : okRv r := by
  unfold bltD at h
  split at h
  all_goals first | (cases h; trivial) | (cases h; done) | (obtain ⟨_, _, e⟩ := Option.map_eq_some_iff.mp h; cases e; trivial) | skip
  all_goals first | ((repeat' split at h) <;> first | (cases h; trivial) | (cases h; done))
end

/-! ### the cases -/
section
variable {X : Cx} {S : Sx} (hK : S.K = X.K)
include hK
theorem ok_var {i : Nat} {y : Str} {pos : Pos} (hN : X.N[i]? = some y) (hv : Vis X.env.scope y) (hd : (y == ("__debug__" : Str)) = false) (hcd : (y == ("__classdict__" : Str)) = false) : PE X (.Name y pos) (rdE S (.var i)) := by
  refine (pe_var hN hv hd hcd).imp fun σ H Q h => ?_
  obtain ⟨Z, env, fp, rel, h⟩ := h
  unfold evE at h
  split at h
  · rename_i d e
    obtain ⟨v, hv, hr⟩ := rel.at_ i _ e
    exact ⟨v, hv, h.now rel .refl rel.zs (fr := []) (by simp) ⟨hr.1, rfl⟩⟩
  · rename_i s _ e
    obtain ⟨v, hv, hr⟩ := rel.at_ i _ e
    exact ⟨v, hv, h.now rel .refl rel.zs (fr := []) (by simp) ⟨hv, ⟨_, e⟩, rfl⟩⟩
  · exact h.elim
theorem ok_cst {x : Expr} {e : E} {v : V} {d : D} (h : PE X x (tC v)) (he : ∀ env, evE S.M e env = .ok (.dat d, env)) (hr : ∀ H Z, Rp S.K H Z v d) : PE X x (rdE S e) := by
  refine h.imp fun σ H Q h => ?_
  obtain ⟨Z, env, fp, rel, h⟩ := h
  rw [he] at h
  exact h.now rel .refl rel.zs (fr := []) (by simp) ⟨hr H Z, rfl⟩
theorem ok_bin {o : Operator} {a b : E} {l r : Expr} {pos : Pos} (ha : PE X l (rdE S a)) (hb : PE X r (rdE S b)) : PE X (.BinOp l o r pos) (rdE S (.bin o a b)) := by
  refine (pe_op (op_binD o) ha hb).imp fun σ H Q h => ?_
  obtain ⟨Z, env, fp, rel, h⟩ := h
  unfold evE at h
  refine ⟨Z, env, fp, rel, Po.seq h fun ra e1 x H1 Z1 fp1 fr1 st1 kp1 rel1 t1 ap1 h => ?_⟩
  refine ⟨Z1, e1, fp1, rel1, Po.seq h fun rb e2 y H2 Z2 fp2 fr2 st2 kp2 rel2 t2 ap2 h => ?_⟩
  obtain ⟨dx, ex, h⟩ := h.opt
  obtain ⟨dy, ey, h⟩ := h.opt
  obtain ⟨rr, er, h⟩ := h.opt
  have t1' := RvR.keep t1 rel1 ap1 st2 kp2
  rw [← hK]
  exact ⟨Z2, dx, dy, rr, rel2.zs, t1'.vw rel2 ex, t2.vw rel2 ey, er, h.post rel2 (binD_kind er)⟩
theorem ok_neg {a : E} {y : Expr} {pos : Pos} (ha : PE X y (rdE S a)) : PE X (.UnaryOp .USub y pos) (rdE S (.neg a)) := by
  refine (pe_un un_neg ha).imp fun σ H Q h => ?_
  obtain ⟨Z, env, fp, rel, h⟩ := h
  unfold evE at h
  refine ⟨Z, env, fp, rel, Po.seq h fun ra e1 x H1 Z1 fp1 fr1 st1 kp1 rel1 t1 ap1 h => ?_⟩
  dsimp only at h
  split at h
  · rename_i i e
    have hv := t1.vw rel1 e
    cases hv
    exact ⟨i, rfl, h.now rel1 .refl rel1.zs (fr := []) (by simp) ⟨.int _, rfl⟩⟩
  · exact h.elim
theorem ok_not {a : E} {y : Expr} {pos : Pos} (ha : PE X y (rdE S a)) : PE X (.UnaryOp .Not y pos) (rdE S (.not a)) := by
  refine (pe_notT ha).imp fun σ H Q h => ?_
  obtain ⟨Z, env, fp, rel, h⟩ := h
  unfold evE at h
  refine ⟨Z, env, fp, rel, Po.seq h fun ra e1 x H1 Z1 fp1 fr1 st1 kp1 rel1 t1 ap1 h => ?_⟩
  obtain ⟨d, ed, h⟩ := h.opt
  have hv := t1.vw rel1 ed
  rw [hK] at hv
  exact ⟨_, tru_D hv, h.now rel1 .refl rel1.zs (fr := []) (by simp) ⟨.bl _, rfl⟩⟩
theorem ok_cmp_core {o : CmpOp} {a b : E} {σ : L2.St} {H : Hp} {Q : VK} (h : rdE S (.cmp o a b) σ H Q) : tOp (r2D X.K (mapB (cmpD o))) (rdE S a) (rdE S b) σ H Q := by
  obtain ⟨Z, env, fp, rel, h⟩ := h
  unfold evE at h
  refine ⟨Z, env, fp, rel, Po.seq h fun ra e1 x H1 Z1 fp1 fr1 st1 kp1 rel1 t1 ap1 h => ?_⟩
  refine ⟨Z1, e1, fp1, rel1, Po.seq h fun rb e2 y H2 Z2 fp2 fr2 st2 kp2 rel2 t2 ap2 h => ?_⟩
  obtain ⟨dx, ex, h⟩ := h.opt
  obtain ⟨dy, ey, h⟩ := h.opt
  obtain ⟨k, ek, h⟩ := h.opt
  have t1' := RvR.keep t1 rel1 ap1 st2 kp2
  rw [← hK]
  exact ⟨Z2, dx, dy, .dat (.bool k), rel2.zs, t1'.vw rel2 ex, t2.vw rel2 ey, by unfold mapB; rw [ek]; rfl, h.post rel2 trivial⟩
theorem ok_cmp (hu : X.A.units + 200 < cLine) {o : CmpOp} {a b : E} {l r : Expr} {pos : Pos} (ha : PE X l (rdE S a)) (hb : PE X r (rdE S b)) (hm : behindInMarks o r = false) : PE X (.Compare l [o] [r] pos) (rdE S (.cmp o a b)) :=
  (pe_cmpR (op_cmpD hu o) ha hb hm).imp fun _ _ _ h => ok_cmp_core hK h
theorem ok_chn_core {o p : CmpOp} {a b c : E} {σ : L2.St} {H : Hp} {Q : VK} (h : rdE S (.chn o p a b c) σ H Q) : tChain (r2D X.K (mapB (cmpD o))) (r2D X.K (mapB (cmpD p))) (rdE S a) (rdE S b) (rdE S c) σ H Q := by
  obtain ⟨Z, env, fp, rel, h⟩ := h
  unfold evE at h
  refine ⟨Z, env, fp, rel, Po.seq h fun ra e1 x H1 Z1 fp1 fr1 st1 kp1 rel1 t1 ap1 h => ?_⟩
  refine ⟨Z1, e1, fp1, rel1, Po.seq h fun rb e2 y H2 Z2 fp2 fr2 st2 kp2 rel2 t2 ap2 h => ?_⟩
  obtain ⟨dx, ex, h⟩ := h.opt
  obtain ⟨dy, ey, h⟩ := h.opt
  obtain ⟨k, ek, h⟩ := h.opt
  have t1' := RvR.keep t1 rel1 ap1 st2 kp2
  rw [← hK]
  refine ⟨Z2, dx, dy, .dat (.bool k), rel2.zs, t1'.vw rel2 ex, t2.vw rel2 ey, by unfold mapB; rw [ek]; rfl, ?_⟩
  intro v H3 Z3 g3 z3 hv
  cases hv
  refine ⟨k, rfl, ?_⟩
  cases k with
  | false =>
    simp only [Bool.false_eq_true, if_false] at h ⊢
    exact h.now rel2 g3 z3 (fr := []) (by simp) ⟨.bl _, rfl⟩
  | true =>
    simp only [if_true] at h ⊢
    have st3 : Step H2 Z2 (Ow fp2) H3 Z3 (Ow fp2) := g3.step
    refine ⟨Z3, e2, fp2, rel2.grow g3 z3, Po.seq (fx := fr1 ++ fr2) (h.adv (g3.step.weak (fun _ q => q) fun _ q => .inl (by simpa using q)) .refl) fun rc e3 w H4 Z4 fp4 fr4 st4 kp4 rel4 t4 ap4 h => ?_⟩
    obtain ⟨dy2, ey2, h⟩ := h.opt
    obtain ⟨dz, ez, h⟩ := h.opt
    obtain ⟨k2, ek2, h⟩ := h.opt
    have t2' : RvR S.K H3 Z3 e2 σ rb y fr2 := t2.step (st3.weak (fun _ q => q) fun _ q => .inl q) rel2.zo ap2 (fun _ q => q)
    have t2'' := RvR.keep t2' (rel2.grow g3 z3) ap2 st4 kp4
    exact ⟨Z4, dy2, dz, .dat (.bool k2), rel4.zs, t2''.vw rel4 ey2, t4.vw rel4 ez, by unfold mapB; rw [ek2]; rfl, h.post rel4 trivial⟩
theorem ok_chn (hu : X.A.units + 200 < cLine) {o p : CmpOp} {a b c : E} {l m r : Expr} {pos : Pos} (ha : PE X l (rdE S a)) (hb : PE X m (rdE S b)) (hc : PE X r (rdE S c)) (hm : lastMarks [o, p] [m, r] = false) : PE X (.Compare l [o, p] [m, r] pos) (rdE S (.chn o p a b c)) :=
  (pe_chain (op_cmpD hu o) (op_cmpD hu p) ha hb hc hm).imp fun _ _ _ h => ok_chn_core hK h
theorem ok_ite {c : T} {a b : E} {t u v : Expr} {pos : Pos} (hc : PT X t (rdT S c)) (ha : PE X u (rdE S a)) (hb : PE X v (rdE S b)) : PE X (.IfExp t u v pos) (rdE S (.ite c a b)) := by
  refine (pe_ifExp hc ha hb).imp fun σ H Q h => ?_
  obtain ⟨Z, env, fp, rel, h⟩ := h
  unfold evE at h
  refine ⟨Z, env, fp, rel, Po.seq h fun k e1 kb H1 Z1 fp1 fr1 st1 kp1 rel1 t1 ap1 h => ?_⟩
  obtain ⟨rfl, rfl⟩ := t1
  dsimp only at h
  cases kb with
  | true =>
    rw [if_pos rfl] at h ⊢
    exact ⟨Z1, e1, fp1, rel1, h⟩
  | false =>
    rw [if_neg Bool.false_ne_true] at h ⊢
    exact ⟨Z1, e1, fp1, rel1, h⟩
theorem ok_tup {es : Es} {xs : List Expr} {k : Nat} {pos : Pos} (h : PA X xs (rdDs S es)) : PE X (.Tuple xs k pos) (rdE S (.tup es)) := by
  refine (pe_tupZ h).imp fun σ H Q h => ?_
  obtain ⟨Z, env, fp, rel, h⟩ := h
  unfold evE at h
  refine ⟨Z, env, fp, rel, Po.seq h fun ds e1 vs H1 Z1 fp1 fr1 st1 kp1 rel1 t1 ap1 h => ?_⟩
  dsimp only at h
  obtain ⟨t1, rfl⟩ := t1
  split at h
  · rename_i hs
    exact ⟨by rw [t1.length]; exact sizeOk_le hs, _, (h.post rel1 trivial).tup rel1.zs t1⟩
  · exact h.elim
theorem ok_lst {es : Es} {xs : List Expr} {pos : Pos} (h : PA X xs (rdDs S es)) : PE X (.List xs pos) (rdE S (.lst es)) := by
  refine (pe_lst h).imp fun σ H Q h => ?_
  obtain ⟨Z, env, fp, rel, h⟩ := h
  unfold evE at h
  refine ⟨Z, env, fp, rel, Po.seq h fun ds e1 vs H1 Z1 fp1 fr1 st1 kp1 rel1 t1 ap1 h => ?_⟩
  dsimp only at h
  obtain ⟨t1, rfl⟩ := t1
  split at h
  · rename_i hs
    exact ⟨by rw [t1.length]; exact sizeOk_le hs, (h.post rel1 trivial).lst rel1.zs t1⟩
  · exact h.elim
theorem ok_idx (hu : X.A.units + 1 < cLine) {a i : E} {y z : Expr} {pos : Pos} (ha : PE X y (rdE S a)) (hi : PE X z (rdE S i)) (hs : PlainIx z) : PE X (.Subscript y z pos) (rdE S (.idx a i)) := by
  refine (pe_ix (ix_D hu) ha hi hs).imp fun σ H Q h => ?_
  obtain ⟨Z, env, fp, rel, h⟩ := h
  unfold evE at h
  refine ⟨Z, env, fp, rel, Po.seq h fun ra e1 x H1 Z1 fp1 fr1 st1 kp1 rel1 t1 ap1 h => ?_⟩
  refine ⟨Z1, e1, fp1, rel1, Po.seq h fun rb e2 y H2 Z2 fp2 fr2 st2 kp2 rel2 t2 ap2 h => ?_⟩
  obtain ⟨dx, ex, h⟩ := h.opt
  obtain ⟨dy, ey, h⟩ := h.opt
  obtain ⟨d, ed, h⟩ := h.opt
  have t1' := RvR.keep t1 rel1 ap1 st2 kp2
  rw [← hK]
  exact ⟨Z2, dx, dy, .dat d, rel2.zs, t1'.vw rel2 ex, t2.vw rel2 ey, by unfold mapD; rw [ed]; rfl, h.post rel2 trivial⟩
theorem ok_slc {a : E} {lo hi : Oe} {y : Expr} {l u : Option Expr} {p2 pos : Pos} (ha : PE X y (rdE S a)) (hl : PO X l (rdO S lo)) (hu : PO X u (rdO S hi)) : PE X (.Subscript y (.Slice l u none p2) pos) (rdE S (.slc a lo hi)) := by
  refine (pe_slice sl_D ha hl hu).imp fun σ H Q h => ?_
  obtain ⟨Z, env, fp, rel, h⟩ := h
  unfold evE at h
  refine ⟨Z, env, fp, rel, Po.seq h fun ra e1 x H1 Z1 fp1 fr1 st1 kp1 rel1 t1 ap1 h => ?_⟩
  refine ⟨Z1, e1, fp1, rel1, Po.seq h fun ol e2 y H2 Z2 fp2 fr2 st2 kp2 rel2 t2 ap2 h => ?_⟩
  refine ⟨Z2, e2, fp2, rel2, Po.seq h fun oh e3 z H3 Z3 fp3 fr3 st3 kp3 rel3 t3 ap3 h => ?_⟩
  obtain ⟨rfl, rfl⟩ := t2
  obtain ⟨rfl, rfl⟩ := t3
  obtain ⟨dx, ex, h⟩ := h.opt
  obtain ⟨r, er, h⟩ := h.opt
  have t1' := RvR.keep t1 rel1 ap1 st2 kp2
  have ap1' : ∀ x ∈ fr1, ¬ Ow fp2 x := fun x hx o => by
    rcases st2.new x (.inl o) with q | q
    · exact ap1 x hx q
    · exact t1.there x hx q
  have t1'' := RvR.keep t1' rel2 ap1' st3 kp3
  rw [← hK]
  exact ⟨Z3, dx, r, rel3.zs, t1''.vw rel3 ex, er, h.post rel3 (slcD_kind er)⟩
end
end Rf
end

-- text RfE
section
set_option Elab.async false
set_option linter.all false
set_option maxRecDepth 100000
set_option maxHeartbeats 1000000
/-! RfE: lists of terms, tests, calls. -/
namespace Rf
open PySem PySem.Spec PyProof.Rows L2

section
variable {K : PySem.W.Frag} {H : Hp} {Z : Addr → Prop} {env e2 : En} {σ : L2.St} {fp : Nat → List Addr} {a : Addr}
theorem SvR.zadd {s : Sv} {v : V} {f : List Addr} (r : SvR K H Z s v f) (ha : a ∉ f) : SvR K H (zadd Z a) s v f := by
  cases s with
  | dat d => exact ⟨r.1.mono (fun _ h => .inl h) fun _ _ _ e => e, r.2⟩
  | lst ds =>
    obtain ⟨b, vs, rfl, rfl, e, h, nz⟩ := r
    exact ⟨b, vs, rfl, rfl, e, h.mono (fun _ h => .inl h) fun _ _ _ e => e, fun q => q.elim nz fun q => ha (by simp [q])⟩
  | dct _ =>
    obtain ⟨b, vs, rfl, rfl, e, h, nz⟩ := r
    exact ⟨b, vs, rfl, rfl, e, h.mono (fun _ h => .inl h) fun _ _ _ e => e, fun q => q.elim nz fun q => ha (by simp [q])⟩
  | dtt _ =>
    obtain ⟨b, vs, rfl, rfl, e, h, nz⟩ := r
    exact ⟨b, vs, rfl, rfl, e, h.mono (fun _ h => .inl h) fun _ _ _ e => e, fun q => q.elim nz fun q => ha (by simp [q])⟩
  | fdc _ =>
    obtain ⟨b, vs, o, rfl, rfl, z, e, h⟩ := r
    exact ⟨b, vs, o, rfl, rfl, .inl z, e, h.mono (fun _ h => .inl h) fun _ _ _ e => e⟩
theorem zadd_step {fr : List Addr} (ha : Owr fp fr a) : Step H Z (Owr fp fr) H (zadd Z a) (Ow fp) :=
  ⟨fun _ h => .inl h, fun x o e n => ⟨e, fun z => z.elim (fun z => z) fun q => absurd (q ▸ ha) n⟩, fun x h => .inl (.inl h)⟩
/-- it changes no more from here on -/
theorem frz_ok {r : Rv} {v : V} {fr : List Addr} {d : D} (q : RvR K H Z env σ r v fr) (rel : Rel K H Z env σ fp) (ap : ∀ x ∈ fr, ¬ Ow fp x) (h : frz env r = some (d, e2)) :
    ∃ Z2 fp2, Step H Z (Owr fp fr) H Z2 (Ow fp2) ∧ Kp env e2 ∧ Rel K H Z2 e2 σ fp2 ∧ Rp K H Z2 v d := by
  cases r with
  | dat d' =>
    have h : some (d', env) = some (d, e2) := h
    cases h
    exact ⟨Z, fp, Step.refl.weak (fun _ h => .inl h) fun _ h => .inl h, .refl, rel, q.1⟩
  | tl ds =>
    have h : some (PyData.list ds, env) = some (d, e2) := h
    cases h
    obtain ⟨a, vs, rfl, rfl, e, hv, nz⟩ := q
    have na : ¬ Ow fp a := ap a (by simp)
    refine ⟨zadd Z a, fp, zadd_step (.inr (by simp)), .refl, ⟨fun i s hs => ?_, rel.no_, rel.dj, rel.len, fun x hx => hx.elim (rel.zs x) fun q => by rw [q, e]; exact fun q => nomatch q⟩,
      .lst (.inr rfl) (.inl e) (hv.mono (fun _ h => .inl h) fun _ _ _ e => e)⟩
    obtain ⟨v, h1, h2⟩ := rel.at_ i s hs
    exact ⟨v, h1, h2.zadd fun q => na ⟨i, q⟩⟩
  | td _ =>
    have h : (none : Option (D × En)) = some (d, e2) := h
    cases h
  | tt _ =>
    have h : (none : Option (D × En)) = some (d, e2) := h
    cases h
  | plc i =>
    obtain ⟨hv, ⟨s, hs⟩, rfl⟩ := q
    have h : (match slot env i with
      | some (.dat d) => some (d, env)
      | some (.lst ds) => some (PyData.list ds, env.set i (some (.dat (.list ds))))
      | _ => none) = some (d, e2) := h
    rw [hs] at h
    obtain ⟨u, h1, h2⟩ := rel.at_ i s hs
    rw [hv] at h1
    cases h1
    cases s with
    | dat d' =>
      cases h
      exact ⟨Z, fp, Step.refl.weak (fun _ h => .inl h) fun _ h => .inl h, .refl, rel, h2.1⟩
    | lst ds =>
      cases h
      obtain ⟨a, vs, rfl, hf, e, hr, nz⟩ := h2
      have hi := slot_lt hs
      have oa : Ow fp a := ⟨i, by rw [hf]; simp⟩
      have hrp : Rp K H (zadd Z a) (.ref a) (.list ds) := .lst (.inr rfl) (.inl e) (hr.mono (fun _ h => .inl h) fun _ _ _ e => e)
      refine ⟨zadd Z a, fun j => if j = i then [] else fp j, ?_, .set, ⟨fun j s hs2 => ?_, fun j hj => ?_, fun j k x h1 h2 => ?_, by rw [List.length_set]; exact rel.len, fun x hx => hx.elim (rel.zs x) fun q => by rw [q, e]; exact fun q => nomatch q⟩, hrp⟩
      · refine ⟨fun _ h => .inl h, fun x o e n => ⟨e, fun z => z.elim (fun z => z) fun q => absurd (.inl (q ▸ oa)) n⟩, fun x h => .inl ?_⟩
        obtain ⟨j, hj⟩ := h
        change x ∈ (if j = i then [] else fp j) at hj
        split at hj
        · simp at hj
        · exact .inl ⟨j, hj⟩
      · rw [slot_set hi] at hs2
        by_cases q : i = j
        · subst q
          rw [if_pos rfl] at hs2
          cases hs2
          exact ⟨_, hv, hrp, by rw [if_pos rfl]⟩
        · rw [if_neg q] at hs2
          obtain ⟨u, g1, g2⟩ := rel.at_ j s hs2
          rw [if_neg (Ne.symm q)]
          exact ⟨u, g1, g2.zadd fun m => q (rel.dj i j a (by rw [hf]; simp) m)⟩
      · rw [slot_set hi] at hj
        by_cases q : i = j
        · rw [if_pos q.symm]
        · rw [if_neg q] at hj
          rw [if_neg (Ne.symm q)]
          exact rel.no_ j hj
      · change x ∈ (if j = i then [] else fp j) at h1
        change x ∈ (if k = i then [] else fp k) at h2
        split at h1
        · simp at h1
        · split at h2
          · simp at h2
          · exact rel.dj j k x h1 h2
    | dct _ => cases h
    | dtt _ => cases h
    | fdc _ => cases h
end

section
variable {α β : Type} {S : Sx} {σ : L2.St} {H : Hp} {Z : Addr → Prop} {env e2 : En} {fp : Nat → List Addr} {fx fr : List Addr} {T : Tp α β} {Q : β → Hp → Prop}
/-- a value is made fast, then it goes on -/
theorem Po.frz {r : Rv} {v : V} {g : D × En → R (α × En)} (h : Po S σ H Z env fp (fx ++ fr) T Q ((R.opt (Rf.frz env r)).bind g)) (q : RvR S.K H Z env σ r v fr) (rel : Rel S.K H Z env σ fp) (ap : ∀ x ∈ fr, ¬ Ow fp x) :
    ∃ d e2 Z2 fp2, Rf.frz env r = some (d, e2) ∧ Step H Z (Owr fp fr) H Z2 (Ow fp2) ∧ Kp env e2 ∧ Rel S.K H Z2 e2 σ fp2 ∧ Rp S.K H Z2 v d ∧ Po S σ H Z2 e2 fp2 fx T Q (g (d, e2)) := by
  obtain ⟨⟨d, e2⟩, e, h⟩ := h.opt
  obtain ⟨Z2, fp2, st, kp, rel2, hr⟩ := frz_ok q rel ap e
  refine ⟨d, e2, Z2, fp2, e, st, kp, rel2, hr, h.adv ?_ kp⟩
  exact st.weak (fun x h => h.elim .inl fun h => .inr (List.mem_append_right _ h)) fun x h => h.elim (fun h => .inl h) fun h => .inr (.inl (.inr (List.mem_append_left _ h)))
end

section
variable {X : Cx} {S : Sx} (hK : S.K = X.K)
include hK
theorem ok_Ds_nil : PA X [] (rdDs S .nil) := by
  refine pa_nil.imp fun σ H Q h => ?_
  obtain ⟨Z, env, fp, rel, h⟩ := h
  unfold evDs at h
  exact h.now rel .refl rel.zs (fr := []) (by simp) ⟨.nil, rfl⟩
theorem ok_Ds_cons {e : E} {r : Es} {y : Expr} {ys : List Expr} (he : PE X y (rdE S e)) (hr : PA X ys (rdDs S r)) (hs : starEach (y :: ys) X.env = (false, eval y X.env) :: starEach ys X.env) : PA X (y :: ys) (rdDs S (.cons e r)) := by
  refine (pa_cons he hr hs).imp fun σ H Q h => ?_
  obtain ⟨Z, env, fp, rel, h⟩ := h
  unfold evDs at h
  refine ⟨Z, env, fp, rel, Po.seq h fun re e1 x H1 Z1 fp1 fr1 st1 kp1 rel1 t1 ap1 h => ?_⟩
  obtain ⟨d, e2, Z2, fp2, _, st2, kp2, rel2, hd, h⟩ := Po.frz h t1 rel1 ap1
  refine ⟨Z2, e2, fp2, rel2, Po.seq h fun ds e3 vs H3 Z3 fp3 fr3 st3 kp3 rel3 t3 ap3 h => ?_⟩
  obtain ⟨t3, rfl⟩ := t3
  exact h.now rel3 .refl rel3.zs (fr := []) (by simp) ⟨.cons (hd.step st3 rel2.zo) t3, rfl⟩
theorem ok_A_nil : PA X [] (rdA S .nil) := by
  refine pa_nil.imp fun σ H Q h => ?_
  obtain ⟨Z, env, fp, rel, h⟩ := h
  unfold evA at h
  exact h.now rel .refl rel.zs (fr := []) (by simp) ⟨rfl, rfl⟩
theorem ok_A_cons {e : E} {r : Es} {y : Expr} {ys : List Expr} (he : PE X y (rdE S e)) (hr : PA X ys (rdA S r)) (hs : starEach (y :: ys) X.env = (false, eval y X.env) :: starEach ys X.env) : PA X (y :: ys) (rdA S (.cons e r)) := by
  refine (pa_cons he hr hs).imp fun σ H Q h => ?_
  obtain ⟨Z, env, fp, rel, h⟩ := h
  unfold evA at h
  refine ⟨Z, env, fp, rel, Po.seq h fun re e1 x H1 Z1 fp1 fr1 st1 kp1 rel1 t1 ap1 h => ?_⟩
  refine ⟨Z1, e1, fp1, rel1, Po.seq h fun rs e2 vs H2 Z2 fp2 fr2 st2 kp2 rel2 t2 ap2 h => ?_⟩
  have t1' := RvR.keep t1 rel1 ap1 st2 kp2
  have ap1' : ∀ x ∈ fr1, ¬ Owr fp2 fr2 x := fun x hx o => by
    rcases st2.new x o with q | q
    · exact ap1 x hx q
    · exact t1.there x hx q
  refine h.here rel2 (fr := fr1 ++ fr2) (by simp) (fun x hx => ?_) ⟨x, vs, fr1, fr2, rfl, rfl, t1', t2, fun a h1 h2 => ap1' a h1 (.inr h2)⟩
  rcases List.mem_append.mp hx with q | q
  · exact fun o => ap1' x q (.inl o)
  · exact ap2 x q
theorem ok_O_no : PO X none (rdO S .no) := by
  refine po_none.imp fun σ H Q h => ?_
  obtain ⟨Z, env, fp, rel, h⟩ := h
  unfold evO at h
  exact h.now rel .refl rel.zs (fr := []) (by simp) ⟨rfl, rfl⟩
theorem ok_O_yes {e : E} {y : Expr} (he : PE X y (rdE S e)) : PO X (some y) (rdO S (.yes e)) := by
  refine (po_some he).imp fun σ H Q h => ?_
  obtain ⟨Z, env, fp, rel, h⟩ := h
  unfold evO at h
  refine ⟨Z, env, fp, rel, Po.seq h fun re e1 x H1 Z1 fp1 fr1 st1 kp1 rel1 t1 ap1 h => ?_⟩
  dsimp only at h
  split at h
  · rename_i i e
    have hv := t1.vw rel1 e
    cases hv
    exact ⟨i, rfl, h.now rel1 .refl rel1.zs (fr := []) (by simp) ⟨rfl, rfl⟩⟩
  · exact h.elim
/-! ### and, or -/
theorem ok_and_one {e : E} {y : Expr} {pos : Pos} (he : PE X y (rdE S e)) : PE X (.BoolOp .And [y] pos) (rdAnd S (.cons e .nil)) :=
  (pe_one he).imp fun σ H Q h => by
    obtain ⟨Z, env, fp, rel, h⟩ := h
    unfold evAnd at h
    exact ⟨Z, env, fp, rel, h⟩
theorem ok_or_one {e : E} {y : Expr} {pos : Pos} (he : PE X y (rdE S e)) : PE X (.BoolOp .Or [y] pos) (rdOr S (.cons e .nil)) :=
  (pe_one he).imp fun σ H Q h => by
    obtain ⟨Z, env, fp, rel, h⟩ := h
    unfold evOr at h
    exact ⟨Z, env, fp, rel, h⟩
theorem ok_and_cons {e f : E} {r : Es} {y z : Expr} {ys : List Expr} {pos : Pos} (he : PE X y (rdE S e)) (hr : PE X (.BoolOp .And (z :: ys) pos) (rdAnd S (.cons f r))) : PE X (.BoolOp .And (y :: z :: ys) pos) (rdAnd S (.cons e (.cons f r))) := by
  refine (pe_andT he hr).imp fun σ H Q h => ?_
  obtain ⟨Z, env, fp, rel, h⟩ := h
  unfold evAnd at h
  refine ⟨Z, env, fp, rel, Po.seq h fun re e1 x H1 Z1 fp1 fr1 st1 kp1 rel1 t1 ap1 h => ?_⟩
  obtain ⟨d, ed, h⟩ := h.opt
  have hv := t1.vw rel1 ed
  rw [hK] at hv
  refine ⟨_, tru_D hv, ?_⟩
  cases k : truD d with
  | true =>
    rw [k] at h
    simp only [if_true] at h ⊢
    refine ⟨Z1, e1, fp1, rel1, h.adv (Step.refl.weak (fun _ h => h) fun x h => .inl (h.elim .inl fun h => by simp at h)) .refl⟩
  | false =>
    rw [k] at h
    simp only [Bool.false_eq_true, if_false] at h ⊢
    exact h.here rel1 (fr := fr1) (fun x hx => by simpa using hx) ap1 t1
theorem ok_or_cons {e f : E} {r : Es} {y z : Expr} {ys : List Expr} {pos : Pos} (he : PE X y (rdE S e)) (hr : PE X (.BoolOp .Or (z :: ys) pos) (rdOr S (.cons f r))) : PE X (.BoolOp .Or (y :: z :: ys) pos) (rdOr S (.cons e (.cons f r))) := by
  refine (pe_orT he hr).imp fun σ H Q h => ?_
  obtain ⟨Z, env, fp, rel, h⟩ := h
  unfold evOr at h
  refine ⟨Z, env, fp, rel, Po.seq h fun re e1 x H1 Z1 fp1 fr1 st1 kp1 rel1 t1 ap1 h => ?_⟩
  obtain ⟨d, ed, h⟩ := h.opt
  have hv := t1.vw rel1 ed
  rw [hK] at hv
  refine ⟨_, tru_D hv, ?_⟩
  cases k : truD d with
  | false =>
    rw [k] at h
    simp only [Bool.false_eq_true, if_false] at h ⊢
    refine ⟨Z1, e1, fp1, rel1, h.adv (Step.refl.weak (fun _ h => h) fun x h => .inl (h.elim .inl fun h => by simp at h)) .refl⟩
  | true =>
    rw [k] at h
    simp only [if_true] at h ⊢
    exact h.here rel1 (fr := fr1) (fun x hx => by simpa using hx) ap1 t1
/-! ### tests -/
theorem ok_T_val {e : E} {y : Expr} (he : PE X y (rdE S e)) (hp : plainT y = true) : PT X y (rdT S (.val e)) := by
  refine (pt_truth he (fun whole => ?_)).imp fun σ H Q h => ?_
  · cases y <;> first | rfl | (simp [plainT] at hp)
    rename_i op _ _
    cases op <;> first | rfl | (simp [plainT] at hp)
  · obtain ⟨Z, env, fp, rel, h⟩ := h
    unfold evT at h
    refine ⟨Z, env, fp, rel, Po.seq h fun re e1 x H1 Z1 fp1 fr1 st1 kp1 rel1 t1 ap1 h => ?_⟩
    obtain ⟨d, ed, h⟩ := h.opt
    have hv := t1.vw rel1 ed
    rw [hK] at hv
    exact ⟨_, tru_D hv, h.now rel1 .refl rel1.zs (fr := []) (by simp) ⟨rfl, rfl⟩⟩
theorem ok_T_b {e : E} {σ : L2.St} {H : Hp} {Q : Bool → Hp → Prop} (hb : ∀ env r e', evE S.M e env = .ok (r, e') → ∃ k, r = .dat (.bool k)) (h : rdT S (.val e) σ H Q) : rdE S e σ H fun x H1 => ∃ k, x = .bl k ∧ Q k H1 := by
  obtain ⟨Z, env, fp, rel, h⟩ := h
  unfold evT at h
  refine ⟨Z, env, fp, rel, ?_⟩
  cases q : evE S.M e env with
  | no => rw [q] at h; exact h
  | exc c p env' =>
    rw [q] at h
    exact h
  | ok x =>
    obtain ⟨r, e'⟩ := x
    rw [q] at h
    obtain ⟨k, rfl⟩ := hb _ _ _ q
    intro b H' Z' fp' fr st kp rel' t ap
    obtain ⟨t, rfl⟩ := t
    cases t
    exact ⟨k, rfl, h k H' Z' fp' [] st kp rel' ⟨rfl, rfl⟩ (by simp)⟩
theorem ok_T_cmp (hu : X.A.units + 200 < cLine) {o : CmpOp} {a b : E} {l r : Expr} {pos : Pos} (ha : PE X l (rdE S a)) (hb : PE X r (rdE S b)) (hm : behindInMarks o r = false) : PT X (.Compare l [o] [r] pos) (rdT S (.val (.cmp o a b))) := by
  refine (pt_cmpR (op_cmpD hu o) ha hb hm).imp fun σ H Q h => ?_
  refine ok_cmp_core hK (ok_T_b hK (fun env r e' e => ?_) h)
  unfold evE at e
  cases h1 : evE S.M a env with
  | no => rw [h1] at e; cases e
  | exc => rw [h1] at e; cases e
  | ok x1 =>
    rw [h1] at e
    simp only [R.bind_ok] at e
    cases h2 : evE S.M b x1.2 with
    | no => rw [h2] at e; cases e
    | exc => rw [h2] at e; cases e
    | ok x2 =>
      rw [h2] at e
      simp only [R.bind_ok] at e
      cases h3 : vw x2.2 x1.1 with
      | none => rw [h3] at e; cases e
      | some y1 =>
        cases h4 : vw x2.2 x2.1 with
        | none => rw [h3, h4] at e; cases e
        | some y2 =>
          rw [h3, h4] at e
          simp only [R.opt_some, R.bind_ok] at e
          cases h5 : cmpD o y1 y2 with
          | none => rw [h5] at e; cases e
          | some k => rw [h5] at e; cases e; exact ⟨k, rfl⟩
theorem ok_T_chn (hu : X.A.units + 200 < cLine) {o p : CmpOp} {a b c : E} {l m r : Expr} {pos : Pos} (ha : PE X l (rdE S a)) (hb : PE X m (rdE S b)) (hc : PE X r (rdE S c)) (hm : lastMarks [o, p] [m, r] = false) : PT X (.Compare l [o, p] [m, r] pos) (rdT S (.val (.chn o p a b c))) := by
  refine (pt_chain (op_cmpD hu o) (op_cmpD hu p) ha hb hc hm).imp fun σ H Q h => ?_
  refine ok_chn_core hK (ok_T_b hK (fun env r e' e => ?_) h)
  unfold evE at e
  cases h1 : evE S.M a env with
  | no => rw [h1] at e; cases e
  | exc => rw [h1] at e; cases e
  | ok x1 =>
    rw [h1] at e
    simp only [R.bind_ok] at e
    cases h2 : evE S.M b x1.2 with
    | no => rw [h2] at e; cases e
    | exc => rw [h2] at e; cases e
    | ok x2 =>
      rw [h2] at e
      simp only [R.bind_ok] at e
      cases h3 : vw x2.2 x1.1 with
      | none => rw [h3] at e; cases e
      | some y1 =>
        cases h4 : vw x2.2 x2.1 with
        | none => rw [h3, h4] at e; cases e
        | some y2 =>
          rw [h3, h4] at e
          simp only [R.opt_some, R.bind_ok] at e
          cases h5 : cmpD o y1 y2 with
          | none => rw [h5] at e; cases e
          | some k =>
            rw [h5] at e
            simp only [R.opt_some, R.bind_ok] at e
            cases k with
            | false => cases e; exact ⟨false, rfl⟩
            | true =>
              simp only [if_true] at e
              cases h6 : evE S.M c x2.2 with
              | no => rw [h6] at e; cases e
              | exc => rw [h6] at e; cases e
              | ok x3 =>
                rw [h6] at e
                simp only [R.bind_ok] at e
                cases h7 : vw x3.2 x2.1 with
                | none => rw [h7] at e; cases e
                | some y3 =>
                  cases h8 : vw x3.2 x3.1 with
                  | none => rw [h7, h8] at e; cases e
                  | some y4 =>
                    rw [h7, h8] at e
                    simp only [R.opt_some, R.bind_ok] at e
                    cases h9 : cmpD p y3 y4 with
                    | none => rw [h9] at e; cases e
                    | some k => rw [h9] at e; cases e; exact ⟨k, rfl⟩
theorem ok_T_not {t : T} {y : Expr} {pos : Pos} (ht : PT X y (rdT S t)) : PT X (.UnaryOp .Not y pos) (rdT S (.not t)) := by
  refine (pt_not ht).imp fun σ H Q h => ?_
  obtain ⟨Z, env, fp, rel, h⟩ := h
  unfold evT at h
  refine ⟨Z, env, fp, rel, Po.seq h fun k e1 kb H1 Z1 fp1 fr1 st1 kp1 rel1 t1 ap1 h => ?_⟩
  obtain ⟨rfl, rfl⟩ := t1
  exact h.now rel1 .refl rel1.zs (fr := []) (by simp) ⟨rfl, rfl⟩
theorem ok_TA_one {t : T} {y : Expr} {pos : Pos} (ht : PT X y (rdT S t)) : PW X (.BoolOp .And [y] pos) (rdTA S (.one t)) :=
  (pw_and1 ht).imp fun σ H Q h => by
    obtain ⟨Z, env, fp, rel, h⟩ := h
    unfold evTA at h
    exact ⟨Z, env, fp, rel, h⟩
theorem ok_TO_one {t : T} {y : Expr} {pos : Pos} (ht : PT X y (rdT S t)) : PW X (.BoolOp .Or [y] pos) (rdTO S (.one t)) :=
  (pw_or1 ht).imp fun σ H Q h => by
    obtain ⟨Z, env, fp, rel, h⟩ := h
    unfold evTO at h
    exact ⟨Z, env, fp, rel, h⟩
theorem ok_TA_cons {t : T} {r : Ts} {y z : Expr} {ys : List Expr} {pos : Pos} (ht : PT X y (rdT S t)) (hr : PW X (.BoolOp .And (z :: ys) pos) (rdTA S r)) : PW X (.BoolOp .And (y :: z :: ys) pos) (rdTA S (.cons t r)) := by
  refine (pw_and ht hr).imp fun σ H Q h => ?_
  obtain ⟨Z, env, fp, rel, h⟩ := h
  unfold evTA at h
  refine ⟨Z, env, fp, rel, Po.seq h fun k e1 kb H1 Z1 fp1 fr1 st1 kp1 rel1 t1 ap1 h => ?_⟩
  obtain ⟨rfl, rfl⟩ := t1
  dsimp only at h
  cases kb with
  | true =>
    rw [if_pos rfl] at h ⊢
    exact ⟨Z1, e1, fp1, rel1, h⟩
  | false =>
    rw [if_neg Bool.false_ne_true] at h ⊢
    exact h.now rel1 .refl rel1.zs (fr := []) (by simp) ⟨rfl, rfl⟩
theorem ok_TO_cons {t : T} {r : Ts} {y z : Expr} {ys : List Expr} {pos : Pos} (ht : PT X y (rdT S t)) (hr : PW X (.BoolOp .Or (z :: ys) pos) (rdTO S r)) : PW X (.BoolOp .Or (y :: z :: ys) pos) (rdTO S (.cons t r)) := by
  refine (pw_or ht hr).imp fun σ H Q h => ?_
  obtain ⟨Z, env, fp, rel, h⟩ := h
  unfold evTO at h
  refine ⟨Z, env, fp, rel, Po.seq h fun k e1 kb H1 Z1 fp1 fr1 st1 kp1 rel1 t1 ap1 h => ?_⟩
  obtain ⟨rfl, rfl⟩ := t1
  dsimp only at h
  cases kb with
  | true =>
    rw [if_pos rfl] at h ⊢
    exact h.now rel1 .refl rel1.zs (fr := []) (by simp) ⟨rfl, rfl⟩
  | false =>
    rw [if_neg Bool.false_ne_true] at h ⊢
    exact ⟨Z1, e1, fp1, rel1, h⟩
/-! ### built-in functions -/
theorem RvAll.vwAll {H : Hp} {Z : Addr → Prop} {env : En} {σ : L2.St} {fp : Nat → List Addr} (rel : Rel S.K H Z env σ fp) : ∀ {rs : List Rv} {vs : List V} {f : List Addr} {ds : List D}, RvAll S.K H Z env σ rs vs f → views env rs = some ds → VwAll S.K H Z vs ds
  | [], vs, f, ds, q, h => by
    obtain ⟨rfl, rfl⟩ := q
    cases h
    exact .nil
  | r :: rs, vs, f, ds, q, h => by
    obtain ⟨v, vs', f1, f2, rfl, rfl, q1, q2, _⟩ := q
    have h : ((vw env r).bind fun d => (views env rs).map (d :: ·)) = some ds := h
    obtain ⟨d, hd, h⟩ := Option.bind_eq_some_iff.mp h
    obtain ⟨ds', hds, rfl⟩ := Option.map_eq_some_iff.mp h
    exact .cons (q1.vw rel hd) (RvAll.vwAll rel q2 hds)
omit hK in
theorem Blt.boot (b : Blt) : bootBuiltins b.nm = some b.val := by cases b <;> decide +kernel
omit hK in
theorem Blt.noname (b : Blt) : b.nm ≠ "__name__" := by cases b <;> decide
omit hK in
theorem Blt.nodebug (b : Blt) : (b.nm == ("__debug__" : Str)) = false := by cases b <;> decide
theorem ok_blt (hc : X.calm = true) (hu : X.A.units + 200 < cLine) {b : Blt} {es : Es} {z : Expr} {zs : List Expr} {p pos : Pos} (hg : Gl X b.nm) (hm : X.mg b.nm = none) (h : PA X (z :: zs) (rdA S es)) (hs : starEach (z :: zs) X.env = (false, eval z X.env) :: starEach zs X.env) (hp : (backTo pos (starEach zs X.env)).any (·.1) = false) :
    PE X (.Call (.Name b.nm p) (z :: zs) [] pos) (rdE S (.blt b es)) := by
  have main : ∀ σ H Q, rdE S (.blt b es) σ H Q → tCB (rnD X.K (bltD b)) (rdA S es) σ H Q := fun σ H Q h => by
    obtain ⟨Z, env, fp, rel, h⟩ := h
    unfold evE at h
    refine ⟨Z, env, fp, rel, Po.seq h fun rs e1 vs H1 Z1 fp1 fr1 st1 kp1 rel1 t1 ap1 h => ?_⟩
    obtain ⟨ds, eds, h⟩ := h.opt
    obtain ⟨r, er, h⟩ := h.opt
    have hv := RvAll.vwAll hK rel1 t1 eds
    rw [← hK]
    exact ⟨Z1, ds, r, rel1.zs, hv, er, h.post rel1 (bltD_kind er)⟩
  have hv := b.boot
  have hcl := call_D (X := X) hc hu b
  have hn := b.noname
  have hd := b.nodebug
  cases hb : b.val with
  | builtin id =>
    rw [hb] at hv hcl
    exact (pe_callB hcl hg hm hv h hn hd hs hp).imp main
  | type T =>
    rw [hb] at hv hcl
    exact (pe_callTy hcl hg hm hv h hn hd hs hp).imp main
  | _ => cases b <;> cases hb
end
end Rf
end

-- text RfT
section
set_option Elab.async false
set_option linter.all false
set_option maxRecDepth 100000
set_option maxHeartbeats 4000000
/-! RfT: enumerate of a tuple. -/
namespace Rf
open PySem PySem.Spec PyProof.Rows L2

theorem meets_enu1 {v : Value} {ob : Obj} {HP : Heap → Prop} (B : Begins v ob HP) :
    Meets (Builtin.«enumerate.__new__» ⟨[.type "enumerate", v], []⟩) (fun _ R s => HP s.heap ∧
      R (.ok (.ret (.ref (s.heap.push ob).objs.size))) { s with heap := (s.heap.push ob).push { cls := .type "enumerate", data := .fields #[.none, .bool false, .ref s.heap.objs.size, rawInt 0, .none, .none] } }) :=
  .of_wp fun prog w A R s q => by
    obtain ⟨hp, g, d, tk, os⟩ := s
    obtain ⟨q0, q⟩ := q
    have hsb := sub_enumerate
    have it : ∀ {A' : Around} {E : Value → Shared → Prop} {Q : Value → Shared → Prop}, Q (.ref hp.objs.size) ⟨hp.push ob, g, d, tk, os⟩ → wpAny (model prog w) A' (pyIter v) Q E ⟨hp, g, d, tk, os⟩ := fun z => B.iter prog w _ _ ⟨hp, g, d, tk, os⟩ _ q0 z
    wp_walk using it
    refine wpAny_stack_any fun stk => wpAny_pure ?_
    split
    · rename_i cl _ _ _ _ _
      cases (cl == Value.type "enumerate") <;> (wp_walk using it; exact ⟨_, rfl, q⟩)
    · wp_walk using it
      exact ⟨_, rfl, q⟩
section
variable {prog : Program} {w : World} {A : Around} {E : Value → Shared → Prop} {s : Shared}
theorem enu_begins {v : Value} {ob : Obj} {HP : Heap → Prop} {Q : Value → Shared → Prop} (B : Begins v ob HP) (h1 : HP s.heap)
    (q : ∀ hh, IsEnum hh (s.heap.objs.size + 1) s.heap.objs.size 0 .none → hh.get? s.heap.objs.size = some ob → (∀ b u, s.heap.get? b = some u → hh.get? b = some u) → Q (.ref (s.heap.objs.size + 1)) { s with heap := hh }) :
    wpAny (model prog w) A (call (.type "enumerate") [v]) Q E s := by
  refine callType_new F.called_enumerate (by decide) (F.typeCall_enumerate_1 _) (F.newCall_enumerate_1 _) (fun z => F.args_object_init_2 z _) F.entry_enumerate_new (meets_enu1 B) ⟨h1, ?_⟩
  have sz : (s.heap.push ob).objs.size = s.heap.objs.size + 1 := Heap.size_push ..
  show _ ∧ _
  rw [sz]
  have he : IsEnum ((s.heap.push ob).push { cls := .type "enumerate", data := .fields #[.none, .bool false, .ref s.heap.objs.size, rawInt 0, .none, .none] }) (s.heap.objs.size + 1) s.heap.objs.size 0 .none := by
    have z := Heap.get?_push_size (s.heap.push ob) (o := { cls := .type "enumerate", data := .fields #[.none, .bool false, .ref s.heap.objs.size, rawInt 0, .none, .none] }) rfl
    rw [sz] at z
    exact z
  exact ⟨⟨_, he, rfl⟩, q _ he (Heap.get?_push_of_some _ (Heap.get?_push_size _ B.free)) fun b u x => Heap.get?_push_of_some _ (Heap.get?_push_of_some _ x)⟩
end
/-- a list or a tuple -/
def SqK : Bool → PySem.W.Frag → Hp → Addr → List V → Prop
  | true, K, H, a, xs => SqT K H a xs
  | false, K, H, a, xs => SqL K H a xs
def HoldK : Bool → Heap → Addr → Array Value → Prop
  | true, h, a, its => h.IsTuple a its
  | false, h, a, its => h.IsList a its
def AtK : Bool → Heap → Addr → Addr → Nat → Prop
  | true, h, it, a, i => h.IsTupleIter it a i
  | false, h, it, a, i => h.IsListIter it a i
section
variable {X : Cx} {pins : List (Addr × Obj)} {σ : L2.St} {H : Hp} {s : Shared} {k : Bool} {a : Addr} {xs ys : List V}
theorem seqK (I : Inv X pins σ H s) (h : SqK k X.K H a xs) : ∃ its, Vals xs its ∧ HoldK k s.heap a its.toArray ∧ xs.length ≤ sizeLine := by
  cases k with
  | true => obtain ⟨its, r, p, z⟩ := I.tuple h; exact ⟨its, r, p, z⟩
  | false => obtain ⟨its, r, p, z⟩ := I.list h; exact ⟨its, r, p.isList, z⟩
theorem seqK_inj (I : Inv X pins σ H s) (h : SqK k X.K H a xs) (h2 : SqK k X.K H a ys) : xs = ys := by
  cases k with
  | true => exact I.tuple_inj h h2
  | false => exact I.list_inj h h2
theorem HoldK.lt {h : Heap} {its : Array Value} (x : HoldK k h a its) : a < h.objs.size := by
  cases k with
  | true => obtain ⟨_, z, _⟩ := id x; exact Heap.lt_size z
  | false => obtain ⟨_, z, _⟩ := id x; exact Heap.lt_size z
theorem HoldK.at {h h' : Heap} {its : Array Value} (x : HoldK k h a its) (e : ∀ o, h.get? a = some o → h'.get? a = some o) : HoldK k h' a its := by
  cases k with
  | true => exact Heap.IsTuple.at x e
  | false => exact Heap.IsList.at x e
theorem AtK.at {h h' : Heap} {it : Addr} {i : Nat} (x : AtK k h it a i) (e : ∀ o, h.get? it = some o → h'.get? it = some o) : AtK k h' it a i := by
  cases k with
  | true => exact Heap.IsTupleIter.at x e
  | false => exact Heap.IsListIter.at x e
theorem AtK.obj {h : Heap} {it : Addr} {i : Nat} (x : AtK k h it a i) : ∃ o, h.get? it = some o ∧ ∀ v, o.data ≠ .cell v := by
  cases k with
  | true => obtain ⟨o, e, _, d⟩ := x; exact ⟨o, e, fun v q => by rw [d] at q; cases q⟩
  | false => obtain ⟨o, e, _, d⟩ := x; exact ⟨o, e, fun v q => by rw [d] at q; cases q⟩
end
/-- the items of what stands at a, each in a new pair -/
def ItE (K : PySem.W.Frag) (k : Bool) (fz : Nat → Bool) (a : Addr) : It :=
  ⟨fun i H => ∃ (xs : List V) (x : V), SqK k K H a xs ∧ xs[i]? = some x, fun i H v H' => ∃ T o x, v = .ref T ∧ H T = none ∧ o.dict = none ∧ H' = upd H T (tpl (fz i) o [.int (i : Nat), x]) ∧ ∀ xs, SqK k K H a xs → xs[i]? = some x, fun i H => ∃ xs : List V, SqK k K H a xs ∧ xs.length = i⟩
theorem drawsK {prog : Program} {w : World} {A : Around} (hh : A.handled = none) (k : Bool) (it t : Addr) (hne : t ≠ it) (items : Array Value) : Draws prog w A it [it, t] items.size (fun i v => items[i]? = some v) fun i h => AtK k h it t i ∧ HoldK k h t items := by
  cases k with
  | true => exact Draws.tuple hh it t hne items
  | false => exact Draws.list hh it t hne items
theorem turn_enuF {P : Program} {w : World} {K : PySem.W.Frag} {k : Bool} {fz : Nat → Bool} {elts : List Expr} {kk : Nat} {tpos : Pos} (a e it : Addr) (hat : a ≠ it) (hae : a ≠ e) :
    Turn P w K (.Tuple elts kk tpos) (ItE K k fz a) [e, it] e (fun i h => (∃ old, IsEnum h e it ((i : Nat) : Int) old) ∧ AtK k h it a i ∧ e ≠ it) where
  mem := by simp
  obj := fun i h st b hb => by
    obtain ⟨⟨old, he⟩, hi, _⟩ := st
    have z : b = e ∨ b = it := by simpa using hb
    rcases z with rfl | rfl
    · exact ⟨_, he, fun v q => nomatch q⟩
    · exact hi.obj
  keep := fun i h h' st k => by
    obtain ⟨⟨old, he⟩, hi, hne⟩ := st
    exact ⟨⟨old, k e (by simp) _ he⟩, hi.at fun o q => k it (by simp) o q, hne⟩
  item := by
    intro X hP hw hK hc i pins s σ H E I hf st hg
    subst hP hw hK
    obtain ⟨⟨old, he⟩, hit, hne⟩ := st
    obtain ⟨xs, x, hq, hx⟩ := hg
    obtain ⟨its, rv, p, hz⟩ := seqK I hq
    obtain ⟨u, hu, ru⟩ := rv.get hx
    have hel : e < s.heap.objs.size := Heap.lt_size he
    have hil : it < s.heap.objs.size := by obtain ⟨_, q, _⟩ := hit.obj; exact Heap.lt_size q
    have hlt : i < its.toArray.size := by
      have := (List.getElem?_eq_some_iff.mp hu).1
      simpa using this
    have D := drawsK (prog := X.prog) (w := X.w) (A := X.A.in1) (show X.A.in1.handled = none from I.ok.hd hc) k it a hat its.toArray
    refine wpAny_pyNext_enum_itemD D he ⟨hit, p⟩ hlt hne (by simp [hne, Ne.symm hae]) fun y h1 tk hy ho hst hT hsz hk => ?_
    have hyu : y = u := by
      have hy : its.toArray[i]? = some y := hy
      rw [List.getElem?_toArray, hu] at hy
      exact (Option.some.inj hy).symm
    subst hyu
    refine ⟨_, rfl, wpAny_letOwnedTupleGo_enum (s := { s with heap := h1, toks := tk + 1 }) ho fun h2 he2 sb => ?_⟩
    have nT : h2.get? s.heap.objs.size = some { cls := .type "tuple", data := .seq #[.int i tk, y] } := (sb.2 _ (Nat.ne_of_gt hel)).trans hT
    have new : ObjOk X.prog X.w (upd H s.heap.objs.size (tpl (fz i) { cls := .type "tuple", data := .seq #[.int i tk, y] } [.int (i : Nat), x])) h2 s.heap.objs.size (tpl (fz i) { cls := .type "tuple", data := .seq #[.int i tk, y] } [.int (i : Nat), x]) :=
      tpl_ok (its := [.int i tk, y]) (by show 2 ≤ sizeLine; decide) (.cons ⟨_, rfl⟩ (.cons ru .nil)) nT rfl ⟨_, rfl⟩
    have J1 := I.turnedNew (t' := tk + 1) (ch := [e, it]) (fun b ob nb q => (sb.2 b (fun z => nb (by simp [z]))).trans (hk b ob (fun z => nb (by simp [z])) (fun z => nb (by simp [z])) q)) hf (Nat.le_refl _) new
    refine ⟨.ref s.heap.objs.size, _, J1, rfl, ⟨_, _, x, rfl, I.hok.fresh (Nat.le_refl _), rfl, rfl, fun zs hy => by rw [seqK_inj I hy hq]; exact hx⟩, ⟨⟨y, ?_⟩, hst.1.at fun o q => (sb.2 it (Ne.symm hne)).trans q, hne⟩, fun b hb => ?_⟩
    · rw [show ((i + 1 : Nat) : Int) = (i : Int) + 1 by omega]; exact he2
    · have lb : b < s.heap.objs.size := by
        have z : b = e ∨ b = it := by simpa using hb
        rcases z with rfl | rfl
        · exact hel
        · exact hil
      rw [upd_ne (Nat.ne_of_lt lb)]
      exact (hf b hb).1
  done := by
    intro X hP hw hK hc i pins s σ H E I hf st hg
    subst hP hw hK
    obtain ⟨⟨old, he⟩, hit, hne⟩ := st
    obtain ⟨xs, hq, hx⟩ := hg
    obtain ⟨its, rv, p, hz⟩ := seqK I hq
    obtain ⟨f0, f1, f2, f3, f4, f5⟩ := hf it (by simp)
    have hl := rv.length
    have D := drawsK (prog := X.prog) (w := X.w) (A := X.A.in1) (show X.A.in1.handled = none from I.ok.hd hc) k it a hat its.toArray
    have hn : i = its.toArray.size := by rw [← hx, hl, List.size_toArray]
    refine wpAny_pyNext_enum_endD D he (by rw [← hn]; exact ⟨hit, p⟩) fun h2 eb => ⟨rfl, I.turned (t' := s.toks) (fun b o nb q => eb b o nb q) f0 f1 f3 f4 f5⟩
  self := fun A i s Q E st h => by
    obtain ⟨⟨_, he⟩, _⟩ := st
    exact wpAny_pyIter_enum he h
def iEnuA (K : PySem.W.Frag) (ta : TA) : TI := fun σ H R => ta σ H fun vs H1 => ∃ k fz a xs, vs = [.ref a] ∧ SqK k K H1 a xs ∧ R (ItE K k fz a) H1
theorem pi_enuA {X : Cx} {e : Expr} {ta : TA} {p pos tpos : Pos} {elts : List Expr} {kk : Nat} (hg : Gl X "enumerate") (hm : X.mg "enumerate" = none) (ha : PA X [e] ta) (hs : starEach [e] X.env = [(false, eval e X.env)]) :
    PI X (.Tuple elts kk tpos) (.Call (.Name "enumerate" p) [e] [] pos) (iEnuA X.K ta) := by
  refine ⟨fun pins s σ H R I h => ?_⟩
  refine Call_ (ld_blt I hg hm boot_enumerate (PyProof.Rows.callWith_type1 (thn (ha.run pos pins s σ H _ I h) fun us s1 ⟨vs, H1, J1, r1, q1⟩ => ?_) hs rfl))
  obtain ⟨k, fz, a, xs, rfl, hq, q⟩ := q1
  cases r1 with
  | cons r rr =>
    cases rr
    cases r
    have hf : ∀ b ∈ [s1.heap.objs.size + 1, s1.heap.objs.size], FpOk X pins H1 b := fun b hb => by
      have z : b = s1.heap.objs.size + 1 ∨ b = s1.heap.objs.size := by simpa using hb
      have le : s1.heap.objs.size ≤ b := by rcases z with rfl | rfl <;> omega
      exact J1.fpOk le (J1.hok.fresh le)
    obtain ⟨its, rv, p', hz⟩ := seqK J1 hq
    have la : a < s1.heap.objs.size := p'.lt
    cases k with
    | false =>
      refine enu_begins (begins_list a its.toArray) p' fun h' he hit hk => wpAny_pyIter_enum he ?_
      exact ⟨s1.heap.objs.size + 1, [s1.heap.objs.size + 1, s1.heap.objs.size], _, _, H1, rfl, J1.kept (t' := s1.toks) hk, turn_enuF (k := false) a _ _ (Nat.ne_of_lt la) (Nat.ne_of_lt (Nat.lt_succ_of_lt la)), ⟨⟨.none, he⟩, (show Heap.IsListIter h' s1.heap.objs.size a 0 from ⟨_, hit, rfl, rfl⟩), Nat.succ_ne_self _⟩, hf, q⟩
    | true =>
      refine enu_begins (begins_tuple a its.toArray) p' fun h' he hit hk => wpAny_pyIter_enum he ?_
      exact ⟨s1.heap.objs.size + 1, [s1.heap.objs.size + 1, s1.heap.objs.size], _, _, H1, rfl, J1.kept (t' := s1.toks) hk, turn_enuF (k := true) a _ _ (Nat.ne_of_lt la) (Nat.ne_of_lt (Nat.lt_succ_of_lt la)), ⟨⟨.none, he⟩, (show Heap.IsTupleIter h' s1.heap.objs.size a 0 from ⟨_, hit, rfl, rfl⟩), Nat.succ_ne_self _⟩, hf, q⟩
end Rf
end

-- text RfZ
section
set_option Elab.async false
set_option linter.all false
set_option maxRecDepth 100000
set_option maxHeartbeats 1000000
/-! RfZ: zip of a tuple and a list: an iterator that stands over items, whatever holds them. -/
namespace Rf
open PySem PySem.Spec PyProof.Rows L2 RZ
/-- the iterator at it stands at k over the items xs of l -/
def Over (xs : Array Value) (it l : Addr) (k : Nat) (h : Heap) : Prop := (h.IsTupleIter it l k ∧ h.IsTuple l xs) ∨ (h.IsListIter it l k ∧ h.IsList l xs)
theorem Over.ext {xs : Array Value} {it l b : Addr} {k : Nat} {h h' : Heap} (o : Over xs it l k h) (e : Heap.ExtBut b h h') (n1 : it ≠ b) (n2 : l ≠ b) : Over xs it l k h' :=
  o.elim (fun o => .inl ⟨o.1.extBut e n1, o.2.extBut e n2⟩) fun o => .inr ⟨o.1.extBut e n1, o.2.extBut e n2⟩
theorem Over.lt {xs : Array Value} {it l : Addr} {k : Nat} {h : Heap} (o : Over xs it l k h) : it < h.objs.size := by
  rcases o with ⟨⟨_, e, _⟩, _⟩ | ⟨⟨_, e, _⟩, _⟩ <;> exact Heap.lt_size e
section
variable {prog : Program} {w : World} {A : Around} {E : Value → Shared → Prop} {s : Shared}
theorem over_item {it l : Addr} {i : Nat} {xs : Array Value} {x : Value} {Q : Value → Shared → Prop} (o : Over xs it l i s.heap) (n : l ≠ it) (hx : xs[i]? = some x)
    (hQ : ∀ h', Over xs it l (i + 1) h' → Heap.SameBut it s.heap h' → Q x { s with heap := h' }) : wpAny (model prog w) A (Builtin.SmallTypes.nextOf (.ref it)) Q E s := by
  rcases o with ⟨h1, h2⟩ | ⟨h1, h2⟩
  · exact nextOf_tuple_item h1 h2 hx fun h' a b => hQ h' (.inl ⟨a, h2.extBut b.extBut n⟩) b
  · exact wpAny_nextOf_list_item h1 h2 hx fun h' a b => hQ h' (.inr ⟨a, h2.extBut b.extBut n⟩) b
theorem over_end {it l : Addr} {i : Nat} {xs : Array Value} {Q : Value → Shared → Prop} (hh : A.handled = none) (o : Over xs it l i s.heap) (hx : xs[i]? = none)
    (hE : ∀ h' e, Heap.ExtBut it s.heap h' → (∃ o, h'.get? e = some o ∧ o.cls = .type "StopIteration") → E (.ref e) { s with heap := h' }) : wpAny (model prog w) A (Builtin.SmallTypes.nextOf (.ref it)) Q E s := by
  rcases o with ⟨h1, h2⟩ | ⟨h1, h2⟩
  · exact nextOf_tuple_end hh h1 h2 hx hE
  · exact wpAny_nextOf_list_end hh h1 h2 hx hE
/-- a turn of a zip over two such iterators -/
theorem zipO_item {z TI TO i1 i2 l1 l2 : Addr} {k1 k2 : Nat} {xs ys : Array Value} {x y a b : Value} {Q : Value → Shared → Prop} (D : ZipApart z TI TO i1 i2 l1 l2) (hz : IsZip s.heap z TI TO .none) (hTI : IsPair s.heap TI (.ref i1) (.ref i2)) (hTO : IsPair s.heap TO a b)
    (h1 : Over xs i1 l1 k1 s.heap) (h2 : Over ys i2 l2 k2 s.heap) (hx : xs[k1]? = some x) (hy : ys[k2]? = some y)
    (hQ : ∀ h', IsZip h' z TI TO (rawInt s.heap.objs.size) → IsPair h' TO x y → Over xs i1 l1 (k1 + 1) h' → Over ys i2 l2 (k2 + 1) h' → IsPair h' s.heap.objs.size x y → h'.objs.size = s.heap.objs.size + 1 →
      (∀ c o, c ≠ z → c ≠ TO → c ≠ i1 → c ≠ i2 → s.heap.get? c = some o → h'.get? c = some o) → Q (.ref s.heap.objs.size) { s with heap := h' }) :
    wpAny (model prog w) A (Builtin.«zip.__next__» ⟨[.ref z], []⟩) (fun fin s' => ∃ v, fin = .done (.ret v) ∧ Q v s') E s := by
  show wpAny _ _ (field (.ref z) 2 >>= _) _ _ _
  refine wpAny_bind (wpAny_field hz rfl (x := .bool false) rfl ?_)
  show wpAny _ _ (field (.ref z) 3 >>= _) _ _ _
  refine wpAny_bind (wpAny_field hz rfl (x := .ref TI) rfl (wpAny_bind (wpAny_seqItems hTI rfl ?_)))
  show wpAny _ _ (Builtin.SmallTypes.ownedTupleIsFree (.ref z) >>= _) _ _ _
  refine wpAny_bind ?_
  unfold Builtin.SmallTypes.ownedTupleIsFree
  refine wpAny_bind (wpAny_field hz rfl (x := .none) rfl (wpAny_pure ?_))
  simp only [if_true]
  refine wpAny_bind (wpAny_rule (wpAny_bind (wpAny_field hz rfl (x := .ref TO) rfl (wpAny_bind (wpAny_setField_rec hz (by simp) fun ha za sa => ?_)))))
  have za : IsZip ha z TI TO .ellipsis := za
  refine wpAny_bind ?_
  simp only [List.zipIdx_cons, List.zipIdx_nil, List.forIn_cons, List.forIn_nil]
  refine wpAny_bind (wpAny_bind (wpAny_onRaise ?_))
  show wpAny _ _ (Builtin.SmallTypes.nextOf (.ref i1) >>= _) _ _ _
  refine wpAny_bind (over_item (h1.ext sa.extBut D.i1z D.l1z) D.l1i1 hx fun hb ob sb => wpAny_pure ?_)
  have tb : IsPair hb TO a b := sb.extBut _ _ D.TOi1 (sa.extBut _ _ D.TOz hTO)
  refine wpAny_bind (wpAny_seqItems tb rfl (wpAny_bind (wpAny_updateSeq_pair tb fun hc tc sc => ?_)))
  have tc : IsPair hc TO x b := tc
  refine wpAny_bind (wpAny_letGo (wpAny_pure (wpAny_bind (wpAny_bind (wpAny_onRaise ?_)))))
  show wpAny _ _ (Builtin.SmallTypes.nextOf (.ref i2) >>= _) _ _ _
  refine wpAny_bind (over_item (((h2.ext sa.extBut D.i2z D.l2z).ext sb.extBut D.i12.symm D.l2i1).ext sc.extBut D.TOi2.symm D.l2TO) D.l2i2 hy fun hd od sd => wpAny_pure ?_)
  have td : IsPair hd TO x b := sd.extBut _ _ D.TOi2 tc
  refine wpAny_bind (wpAny_seqItems td rfl (wpAny_bind (wpAny_updateSeq_pair td fun he te se => ?_)))
  have te : IsPair he TO x y := te
  refine wpAny_bind (wpAny_letGo (wpAny_pure (wpAny_pure ?_)))
  refine wpAny_bind (wpAny_seqItems te rfl (wpAny_bind (wpAny_newTuple ?_)))
  have size : he.objs.size = s.heap.objs.size := by rw [se.1, sd.1, sc.1, sb.1, sa.1]
  have ze : IsZip he z TI TO .ellipsis := se.extBut _ _ D.TOz.symm (sd.extBut _ _ D.i2z.symm (sc.extBut _ _ D.TOz.symm (sb.extBut _ _ D.i1z.symm za)))
  have o1 : Over xs i1 l1 (k1 + 1) he := ((ob.ext sc.extBut D.TOi1.symm D.l1TO).ext sd.extBut D.i12 D.l1i2).ext se.extBut D.TOi1.symm D.l1TO
  have o2 : Over ys i2 l2 (k2 + 1) he := od.ext se.extBut D.TOi2.symm D.l2TO
  have zl : z < he.objs.size := Heap.lt_size ze
  show wpAny _ _ (Builtin.SmallTypes.ownedTupleHandOut (.ref z) (.ref he.objs.size) >>= _) _ _ _
  refine wpAny_bind ?_
  unfold Builtin.SmallTypes.ownedTupleHandOut
  have zf : IsZip (he.push { cls := .type "tuple", data := .seq #[x, y] }) z TI TO .ellipsis := Heap.get?_push_of_some _ ze
  refine wpAny_bind (wpAny_setField_rec zf (by simp) fun hg zg sg => ?_)
  have zg : IsZip hg z TI TO (rawInt he.objs.size) := zg
  refine wpAny_setField_rec zg (by simp) fun hi zi si => ?_
  have zi : IsZip hi z TI TO (rawInt he.objs.size) := zi
  have pe : Heap.ExtBut z he hi := fun c o n e => si.extBut _ _ n (sg.extBut _ _ n (Heap.get?_push_of_some _ e))
  have ti : IsPair hi he.objs.size x y := si.extBut _ _ (Nat.ne_of_gt zl) (sg.extBut _ _ (Nat.ne_of_gt zl) (Heap.get?_push_size _ rfl))
  have size2 : hi.objs.size = he.objs.size + 1 := by rw [si.1, sg.1, Heap.size_push]
  rw [size] at zi ti size2
  refine wpAny_pure ⟨_, rfl, ?_⟩
  show Q (.ref he.objs.size) _
  rw [size]
  exact hQ hi zi (pe _ _ D.TOz te) (o1.ext pe D.i1z D.l1z) (o2.ext pe D.i2z D.l2z) ti size2 fun c o c1 c2 c3 c4 e =>
    pe c o c1 (se.extBut _ _ c2 (sd.extBut _ _ c4 (sc.extBut _ _ c2 (sb.extBut _ _ c3 (sa.extBut _ _ c1 e)))))
theorem zipO_end {z TI TO i1 i2 l1 l2 : Addr} {k1 k2 : Nat} {xs ys : Array Value} {a b : Value} {Q : Fin → Shared → Prop} (hh : A.handled = none) (D : ZipApart z TI TO i1 i2 l1 l2) (hz : IsZip s.heap z TI TO .none) (hTI : IsPair s.heap TI (.ref i1) (.ref i2)) (hTO : IsPair s.heap TO a b)
    (h1 : Over xs i1 l1 k1 s.heap) (h2 : Over ys i2 l2 k2 s.heap) (hend : xs[k1]? = none ∨ ys[k2]? = none)
    (hE : ∀ h' e, (∀ c o, c ≠ z → c ≠ TO → c ≠ i1 → c ≠ i2 → s.heap.get? c = some o → h'.get? c = some o) → (∃ o, h'.get? e = some o ∧ o.cls = .type "StopIteration") → E (.ref e) { s with heap := h' }) :
    wpAny (model prog w) A (Builtin.«zip.__next__» ⟨[.ref z], []⟩) Q E s := by
  show wpAny _ _ (field (.ref z) 2 >>= _) _ _ _
  refine wpAny_bind (wpAny_field hz rfl (x := .bool false) rfl ?_)
  show wpAny _ _ (field (.ref z) 3 >>= _) _ _ _
  refine wpAny_bind (wpAny_field hz rfl (x := .ref TI) rfl (wpAny_bind (wpAny_seqItems hTI rfl ?_)))
  show wpAny _ _ (Builtin.SmallTypes.ownedTupleIsFree (.ref z) >>= _) _ _ _
  refine wpAny_bind ?_
  unfold Builtin.SmallTypes.ownedTupleIsFree
  refine wpAny_bind (wpAny_field hz rfl (x := .none) rfl (wpAny_pure ?_))
  simp only [if_true]
  refine wpAny_bind (wpAny_rule (wpAny_bind (wpAny_field hz rfl (x := .ref TO) rfl (wpAny_bind (wpAny_setField_rec hz (by simp) fun ha za sa => ?_)))))
  have za : IsZip ha z TI TO .ellipsis := za
  refine wpAny_bind ?_
  simp only [List.zipIdx_cons, List.zipIdx_nil, List.forIn_cons, List.forIn_nil]
  refine wpAny_bind (wpAny_bind (wpAny_onRaise ?_))
  show wpAny _ _ (Builtin.SmallTypes.nextOf (.ref i1) >>= _) _ _ _
  have stop : ∀ {h : Heap} {e : Addr}, IsZip h z TI TO .ellipsis → (∃ o, h.get? e = some o ∧ o.cls = .type "StopIteration") → e ≠ z := fun {h e} q ⟨o, g, c⟩ q2 => by
    subst q2
    rw [q] at g
    cases g
    simp at c
  cases hx : xs[k1]? with
  | none =>
    refine wpAny_bind (over_end hh (h1.ext sa.extBut D.i1z D.l1z) hx fun hb e sb he => ?_)
    have zb : IsZip hb z TI TO .ellipsis := sb _ _ D.i1z.symm za
    have ne := stop zb he
    obtain ⟨oe, ge, ce⟩ := he
    exact wpAny_setField_rec zb (by simp) fun hc _ sc => hE hc e (fun c o c1 _ c3 _ q => sc.extBut _ _ c1 (sb _ _ c3 (sa.extBut _ _ c1 q))) ⟨oe, sc.extBut _ _ ne ge, ce⟩
  | some x =>
    have hy : ys[k2]? = none := hend.elim (fun q => by rw [hx] at q; cases q) fun q => q
    refine wpAny_bind (over_item (h1.ext sa.extBut D.i1z D.l1z) D.l1i1 hx fun hb ob sb => wpAny_pure ?_)
    have tb : IsPair hb TO a b := sb.extBut _ _ D.TOi1 (sa.extBut _ _ D.TOz hTO)
    refine wpAny_bind (wpAny_seqItems tb rfl (wpAny_bind (wpAny_updateSeq_pair tb fun hc tc sc => ?_)))
    refine wpAny_bind (wpAny_letGo (wpAny_pure (wpAny_bind (wpAny_bind (wpAny_onRaise ?_)))))
    show wpAny _ _ (Builtin.SmallTypes.nextOf (.ref i2) >>= _) _ _ _
    refine wpAny_bind (over_end hh (((h2.ext sa.extBut D.i2z D.l2z).ext sb.extBut D.i12.symm D.l2i1).ext sc.extBut D.TOi2.symm D.l2TO) hy fun hd e sd he => ?_)
    have zd : IsZip hd z TI TO .ellipsis := sd _ _ D.i2z.symm (sc.extBut _ _ D.TOz.symm (sb.extBut _ _ D.i1z.symm za))
    have ne := stop zd he
    obtain ⟨oe, ge, ce⟩ := he
    exact wpAny_setField_rec zd (by simp) fun hf _ sf => hE hf e (fun c o c1 c2 c3 c4 q => sf.extBut _ _ c1 (sd _ _ c4 (sc.extBut _ _ c2 (sb.extBut _ _ c3 (sa.extBut _ _ c1 q))))) ⟨oe, sf.extBut _ _ ne ge, ce⟩
theorem nextO_item {z TI TO i1 i2 l1 l2 : Addr} {k1 k2 : Nat} {xs ys : Array Value} {x y a b : Value} {Q : Option Value → Shared → Prop} (D : ZipApart z TI TO i1 i2 l1 l2) (hz : IsZip s.heap z TI TO .none) (hTI : IsPair s.heap TI (.ref i1) (.ref i2)) (hTO : IsPair s.heap TO a b)
    (h1 : Over xs i1 l1 k1 s.heap) (h2 : Over ys i2 l2 k2 s.heap) (hx : xs[k1]? = some x) (hy : ys[k2]? = some y)
    (hQ : ∀ h', IsZip h' z TI TO (rawInt s.heap.objs.size) → IsPair h' TO x y → Over xs i1 l1 (k1 + 1) h' → Over ys i2 l2 (k2 + 1) h' → IsPair h' s.heap.objs.size x y → h'.objs.size = s.heap.objs.size + 1 →
      (∀ c o, c ≠ z → c ≠ TO → c ≠ i1 → c ≠ i2 → s.heap.get? c = some o → h'.get? c = some o) → Q (some (.ref s.heap.objs.size)) { s with heap := h' }) : wpAny (model prog w) A (pyNext (.ref z)) Q E s := by
  have hT : s.TypeIs (.ref z) "zip" := ⟨_, hz, rfl⟩
  unfold pyNext
  exact wpAny_bind (wpAny_attempt (wpAny_callSpecial?_slot (name := Str.ofString "__next__") hT F.slot_zip_next (wpAny_call_entry F.slot_zip_next hT F.entry_zip_next
    (zipO_item D hz hTI hTO h1 h2 hx hy fun h' a1 a2 a3 a4 a5 a6 a7 => wpAny_pure (hQ h' a1 a2 a3 a4 a5 a6 a7)) (F.args_zip_next_1 _))))
theorem nextO_end {z TI TO i1 i2 l1 l2 : Addr} {k1 k2 : Nat} {xs ys : Array Value} {a b : Value} {Q : Option Value → Shared → Prop} (hh : A.handled = none) (D : ZipApart z TI TO i1 i2 l1 l2) (hz : IsZip s.heap z TI TO .none) (hTI : IsPair s.heap TI (.ref i1) (.ref i2)) (hTO : IsPair s.heap TO a b)
    (h1 : Over xs i1 l1 k1 s.heap) (h2 : Over ys i2 l2 k2 s.heap) (hend : xs[k1]? = none ∨ ys[k2]? = none)
    (hQ : ∀ h', (∀ c o, c ≠ z → c ≠ TO → c ≠ i1 → c ≠ i2 → s.heap.get? c = some o → h'.get? c = some o) → Q none { s with heap := h' }) : wpAny (model prog w) A (pyNext (.ref z)) Q E s := by
  have hT : s.TypeIs (.ref z) "zip" := ⟨_, hz, rfl⟩
  unfold pyNext
  refine wpAny_bind (wpAny_attempt (wpAny_callSpecial?_slot (name := Str.ofString "__next__") hT F.slot_zip_next (wpAny_call_entry F.slot_zip_next hT F.entry_zip_next
    (zipO_end hh D hz hTI hTO h1 h2 hend fun h' e hk he => ?_) (F.args_zip_next_1 _))))
  obtain ⟨o, ho, hc⟩ := he
  exact wpAny_bind (wpAny_isInstance (T := "StopIteration") (b := true) ⟨o, ho, hc⟩ isSubtype_stop (wpAny_pure (hQ _ hk)))
end
abbrev mix1 (h : Heap) (l1 : Addr) : Heap := h.push { cls := .type "tuple_iterator", data := .fields #[.ref l1, .int 0 0] }
abbrev mix2 (h : Heap) (l1 l2 : Addr) : Heap := (mix1 h l1).push { cls := .type "list_iterator", data := .fields #[.ref l2, .int 0 0] }
abbrev mix3 (h : Heap) (l1 l2 : Addr) : Heap := (mix2 h l1 l2).push { cls := .type "tuple", data := .seq #[.ref h.objs.size, .ref (mix1 h l1).objs.size] }
abbrev mixH (h : Heap) (l1 l2 : Addr) : Heap := (mix3 h l1 l2).push { cls := .type "tuple", data := .seq #[.none, .none] }
abbrev mixZ (h : Heap) (l1 l2 : Addr) : Heap := (mixH h l1 l2).push { cls := .type "zip", data := .fields #[.none, .bool false, .bool false, .ref (mix2 h l1 l2).objs.size, .ref (mix3 h l1 l2).objs.size] }
theorem meets_mix (l1 l2 : Addr) (xs ys : Array Value) :
    Meets (Builtin.«zip.__new__» ⟨[.type "zip", .ref l1, .ref l2], []⟩) (fun _ R s => s.heap.IsTuple l1 xs ∧ s.heap.IsList l2 ys ∧ R (.ok (.ret (.ref (mixH s.heap l1 l2).objs.size))) { s with heap := mixZ s.heap l1 l2 }) :=
  .of_wp fun prog w A R s h => by
    obtain ⟨hp, g, d, tk, os⟩ := s
    obtain ⟨hl1, hl2, h⟩ := h
    have hsub := sub_zip
    have hL1 : Heap.IsTuple (Shared.heap ⟨hp, g, d, tk, os⟩) l1 xs := hl1
    have hL2 : Heap.IsList (Shared.heap ⟨hp.push { cls := .type "tuple_iterator", data := .fields #[.ref l1, .int 0 0] }, g, d, tk, os⟩) l2 ys := Heap.IsList.push hl2 _
    wp_walk using wpAny_pyIter_tuple hL1, wpAny_pyIter_list hL2
    exact ⟨_, rfl, h⟩
theorem call_mix {prog : Program} {w : World} {A : Around} {E : Value → Shared → Prop} {s : Shared} {l1 l2 : Addr} {xs ys : Array Value} {Q : Value → Shared → Prop} (hl1 : s.heap.IsTuple l1 xs) (hl2 : s.heap.IsList l2 ys)
    (h : ∀ h', IsZip h' (s.heap.objs.size + 4) (s.heap.objs.size + 2) (s.heap.objs.size + 3) .none → IsPair h' (s.heap.objs.size + 2) (.ref s.heap.objs.size) (.ref (s.heap.objs.size + 1)) →
      IsPair h' (s.heap.objs.size + 3) .none .none → h'.IsTupleIter s.heap.objs.size l1 0 → h'.IsListIter (s.heap.objs.size + 1) l2 0 → (∀ c o, s.heap.get? c = some o → h'.get? c = some o) → Q (.ref (s.heap.objs.size + 4)) { s with heap := h' }) :
    wpAny (model prog w) A (call (.type "zip") [.ref l1, .ref l2]) Q E s := by
  refine callType_new F.called_zip (by decide) (F.typeCall_zip_2 _ _) (F.newCall_zip_2 _ _) (fun obj => F.args_object_init_3 obj _ _) F.entry_zip_new (meets_mix l1 l2 xs ys) ⟨hl1, hl2, ?_⟩
  have n1 : (mix1 s.heap l1).objs.size = s.heap.objs.size + 1 := Heap.size_push ..
  have n2 : (mix2 s.heap l1 l2).objs.size = s.heap.objs.size + 2 := by rw [Heap.size_push, n1]
  have n3 : (mix3 s.heap l1 l2).objs.size = s.heap.objs.size + 3 := by rw [Heap.size_push, n2]
  have n4 : (mixH s.heap l1 l2).objs.size = s.heap.objs.size + 4 := by rw [Heap.size_push, n3]
  have k5 : ∀ c o, (mixH s.heap l1 l2).get? c = some o → (mixZ s.heap l1 l2).get? c = some o := fun c o q => Heap.get?_push_of_some _ q
  have k4 : ∀ c o, (mix3 s.heap l1 l2).get? c = some o → (mixZ s.heap l1 l2).get? c = some o := fun c o q => k5 c o (Heap.get?_push_of_some _ q)
  have k3 : ∀ c o, (mix2 s.heap l1 l2).get? c = some o → (mixZ s.heap l1 l2).get? c = some o := fun c o q => k4 c o (Heap.get?_push_of_some _ q)
  have k2 : ∀ c o, (mix1 s.heap l1).get? c = some o → (mixZ s.heap l1 l2).get? c = some o := fun c o q => k3 c o (Heap.get?_push_of_some _ q)
  have g5 : (mixZ s.heap l1 l2).get? (mixH s.heap l1 l2).objs.size = some _ := Heap.get?_push_size _ rfl
  have g4 := k5 _ _ (show (mixH s.heap l1 l2).get? (mix3 s.heap l1 l2).objs.size = some _ from Heap.get?_push_size _ rfl)
  have g3 := k4 _ _ (show (mix3 s.heap l1 l2).get? (mix2 s.heap l1 l2).objs.size = some _ from Heap.get?_push_size _ rfl)
  have g2 := k3 _ _ (show (mix2 s.heap l1 l2).get? (mix1 s.heap l1).objs.size = some _ from Heap.get?_push_size _ rfl)
  have g1 := k2 _ _ (show (mix1 s.heap l1).get? s.heap.objs.size = some _ from Heap.get?_push_size _ rfl)
  have f5 : IsZip (mixZ s.heap l1 l2) (s.heap.objs.size + 4) (s.heap.objs.size + 2) (s.heap.objs.size + 3) .none := by
    rw [n2, n3, n4] at g5
    exact g5
  have f4 : IsPair (mixZ s.heap l1 l2) (s.heap.objs.size + 3) .none .none := n3 ▸ g4
  have f3 : IsPair (mixZ s.heap l1 l2) (s.heap.objs.size + 2) (.ref s.heap.objs.size) (.ref (s.heap.objs.size + 1)) := by
    have := g3
    rw [n2] at this
    rw [← n1]
    exact this
  show _ ∧ _
  rw [n4]
  exact ⟨⟨_, f5, rfl⟩, h _ f5 f3 f4 ⟨_, g1, rfl, rfl⟩ ⟨_, n1 ▸ g2, rfl, rfl⟩ fun c o q => k2 c o (Heap.get?_push_of_some _ q)⟩
/-- the items of what stands at a and at b, in new pairs -/
def ItzF (K : PySem.W.Frag) (k1 k2 : Bool) (fz : Nat → Bool) (a b : Addr) : It :=
  ⟨fun i H => ∃ (xs ys : List V) (x y : V), SqK k1 K H a xs ∧ SqK k2 K H b ys ∧ xs[i]? = some x ∧ ys[i]? = some y,
    fun i H v H' => ∃ T o x y, v = .ref T ∧ H T = none ∧ o.dict = none ∧ H' = upd H T (tpl (fz i) o [x, y]) ∧ (∀ xs, SqK k1 K H a xs → xs[i]? = some x) ∧ ∀ ys, SqK k2 K H b ys → ys[i]? = some y,
    fun i H => ∃ xs ys : List V, SqK k1 K H a xs ∧ SqK k2 K H b ys ∧ (xs.length ≤ i ∨ ys.length ≤ i)⟩
theorem Over.tup {xs : Array Value} {it l : Addr} {k : Nat} {h : Heap} (o : Over xs it l k h) (t : ∃ ys, h.IsTuple l ys) : h.IsTupleIter it l k := by
  rcases o with o | ⟨_, ⟨o1, e1, c1, _⟩⟩
  · exact o.1
  · obtain ⟨ys, o2, e2, c2, _⟩ := t
    rw [e1] at e2
    cases e2
    rw [c1] at c2
    simp at c2
theorem Over.lst {xs : Array Value} {it l : Addr} {k : Nat} {h : Heap} (o : Over xs it l k h) (t : ∃ ys, h.IsList l ys) : h.IsListIter it l k := by
  rcases o with ⟨_, ⟨o1, e1, c1, _⟩⟩ | o
  · obtain ⟨ys, o2, e2, c2, _⟩ := t
    rw [e1] at e2
    cases e2
    rw [c1] at c2
    simp at c2
  · exact o.1
theorem Over.atK {k : Bool} {xs ys : Array Value} {it l : Addr} {i : Nat} {h : Heap} (o : Over xs it l i h) (t : HoldK k h l ys) : AtK k h it l i := by
  cases k with
  | true => exact o.tup ⟨ys, t⟩
  | false => exact o.lst ⟨ys, t⟩
theorem over_of {k : Bool} {xs : Array Value} {it l : Addr} {i : Nat} {h : Heap} (o : AtK k h it l i) (t : HoldK k h l xs) : Over xs it l i h := by
  cases k with
  | true => exact .inl ⟨o, t⟩
  | false => exact .inr ⟨o, t⟩
theorem AtK.lt {k : Bool} {it l : Addr} {i : Nat} {h : Heap} (o : AtK k h it l i) : it < h.objs.size := by
  obtain ⟨_, e, _⟩ := o.obj
  exact Heap.lt_size e
theorem mem5 {c z TI TO i1 i2 : Addr} (h : c ∈ [z, TI, TO, i1, i2]) : c = z ∨ c = TI ∨ c = TO ∨ c = i1 ∨ c = i2 := by simpa using h
theorem turn_zipF {P : Program} {w : World} {K : PySem.W.Frag} {k1 k2 : Bool} {fz : Nat → Bool} {elts : List Expr} {kk : Nat} {tpos : Pos} {a b z TI TO i1 i2 : Addr} (D : ZipApart z TI TO i1 i2 a b) :
    Turn P w K (.Tuple elts kk tpos) (ItzF K k1 k2 fz a b) [z, TI, TO, i1, i2] z (fun i h => IsZip h z TI TO .none ∧ IsPair h TI (.ref i1) (.ref i2) ∧ (∃ x y, IsPair h TO x y) ∧ AtK k1 h i1 a i ∧ AtK k2 h i2 b i) where
  mem := by simp
  obj := fun i h st c hc => by
    obtain ⟨hz, hTI, ⟨x, y, hTO⟩, h1, h2⟩ := st
    rcases mem5 hc with q | q | q | q | q <;> rw [q]
    · exact ⟨_, hz, fun v q => nomatch q⟩
    · exact ⟨_, hTI, fun v q => nomatch q⟩
    · exact ⟨_, hTO, fun v q => nomatch q⟩
    · exact h1.obj
    · exact h2.obj
  keep := fun i h h' st k => by
    obtain ⟨hz, hTI, ⟨x, y, hTO⟩, h1, h2⟩ := st
    exact ⟨k z (by simp) _ hz, k TI (by simp) _ hTI, ⟨x, y, k TO (by simp) _ hTO⟩, h1.at fun o q => k i1 (by simp) o q, h2.at fun o q => k i2 (by simp) o q⟩
  item := by
    intro X hP hw hK hc i pins s σ H E I hf st hg
    subst hP hw hK
    obtain ⟨hz, hTI, ⟨x0, y0, hTO⟩, h1, h2⟩ := st
    obtain ⟨xs, ys, x, y, hqx, hqy, hx, hy⟩ := hg
    obtain ⟨its, rv, p, _⟩ := seqK I hqx
    obtain ⟨its2, rv2, p2, _⟩ := seqK I hqy
    obtain ⟨u, hu, ru⟩ := rv.get hx
    obtain ⟨u2, hu2, ru2⟩ := rv2.get hy
    have zl : z < s.heap.objs.size := Heap.lt_size hz
    refine nextO_item D hz hTI hTO (over_of h1 p) (over_of h2 p2) (x := u) (y := u2) (by simpa using hu) (by simpa using hu2) fun h' z' TO' o1 o2 hT hsz hk => ?_
    have a1 : HoldK k1 h' a its.toArray := p.at fun o q => hk a o D.l1z D.l1TO D.l1i1 D.l1i2 q
    have b1 : HoldK k2 h' b its2.toArray := p2.at fun o q => hk b o D.l2z D.l2TO D.l2i1 D.l2i2 q
    refine ⟨_, rfl, wpAny_letOwnedTupleGo_zip (s := { s with heap := h' }) z' fun h'' z'' sb => ?_⟩
    have up : ∀ c o, c ∉ [z, TI, TO, i1, i2] → s.heap.get? c = some o → h''.get? c = some o := fun c o hb q =>
      (sb.2 c (fun q' => hb (by simp [q']))).trans (hk c o (fun q' => hb (by simp [q'])) (fun q' => hb (by simp [q'])) (fun q' => hb (by simp [q'])) (fun q' => hb (by simp [q'])) q)
    have hT2 : h''.get? s.heap.objs.size = some { cls := .type "tuple", data := .seq #[u, u2] } := (sb.2 _ (Nat.ne_of_gt zl)).trans hT
    have new : ObjOk X.prog X.w (upd H s.heap.objs.size (tpl (fz i) { cls := .type "tuple", data := .seq #[u, u2] } [x, y])) h'' s.heap.objs.size (tpl (fz i) { cls := .type "tuple", data := .seq #[u, u2] } [x, y]) :=
      tpl_ok (its := [u, u2]) (by show 2 ≤ sizeLine; decide) (.cons ru (.cons ru2 .nil)) hT2 rfl ⟨_, rfl⟩
    have I1 := I.turnedNew (t' := s.toks) (ch := [z, TI, TO, i1, i2]) up hf (Nat.le_refl _) new
    refine ⟨.ref s.heap.objs.size, _, I1, rfl, ⟨_, _, x, y, rfl, I.hok.fresh (Nat.le_refl _), rfl, rfl, fun l hl => by rw [seqK_inj I hl hqx]; exact hx, fun l hl => by rw [seqK_inj I hl hqy]; exact hy⟩, ⟨z'', ?_, ⟨u, u2, ?_⟩, ?_, ?_⟩, fun c hcm => ?_⟩
    · exact (sb.2 _ D.TIz).trans (hk _ _ D.TIz D.TITO D.TIi1 D.TIi2 hTI)
    · exact (sb.2 _ D.TOz).trans TO'
    · exact (o1.atK a1).at fun o q => (sb.2 _ D.i1z).trans q
    · exact (o2.atK b1).at fun o q => (sb.2 _ D.i2z).trans q
    · have hlt : c < s.heap.objs.size := by
        rcases mem5 hcm with q | q | q | q | q <;> rw [q]
        · exact zl
        · exact Heap.lt_size hTI
        · exact Heap.lt_size hTO
        · exact h1.lt
        · exact h2.lt
      rw [upd_ne (Nat.ne_of_lt hlt)]
      exact (hf c hcm).1
  done := by
    intro X hP hw hK hc i pins s σ H E I hf st hg
    subst hP hw hK
    obtain ⟨hz, hTI, ⟨x0, y0, hTO⟩, h1, h2⟩ := st
    obtain ⟨xs, ys, hqx, hqy, hend⟩ := hg
    obtain ⟨its, rv, p, _⟩ := seqK I hqx
    obtain ⟨its2, rv2, p2, _⟩ := seqK I hqy
    have l1 := rv.length
    have l2 := rv2.length
    have he : its.toArray[i]? = none ∨ its2.toArray[i]? = none := hend.elim (fun q => .inl (by simp; omega)) fun q => .inr (by simp; omega)
    exact nextO_end (I.ok.hd hc) D hz hTI hTO (over_of h1 p) (over_of h2 p2) he fun h' hk => ⟨rfl, I.turnedL (t' := s.toks) (ch := [z, TI, TO, i1, i2]) (fun c o hb q =>
      hk c o (fun q' => hb (by simp [q'])) (fun q' => hb (by simp [q'])) (fun q' => hb (by simp [q'])) (fun q' => hb (by simp [q'])) q) hf⟩
  self := fun A i s Q E st h => wpAny_pyIter_zip st.1 h
def iZipF (K : PySem.W.Frag) (ta : TA) : TI := fun σ H R => ta σ H fun vs H1 => ∃ k1 k2 fz a b xs ys, vs = [.ref a, .ref b] ∧ (k1 = true ∨ k2 = false) ∧ SqK k1 K H1 a xs ∧ SqK k2 K H1 b ys ∧ R (ItzF K k1 k2 fz a b) H1
theorem pi_zipF {X : Cx} {e e2 : Expr} {ta : TA} {p pos tpos : Pos} {elts : List Expr} {kk : Nat} (hg : Gl X "zip") (hm : X.mg "zip" = none) (ha : PA X [e, e2] ta)
    (hs : starEach [e, e2] X.env = (false, eval e X.env) :: starEach [e2] X.env) (hpl : (backTo pos (starEach [e2] X.env)).any (·.1) = false) :
    PI X (.Tuple elts kk tpos) (.Call (.Name "zip" p) [e, e2] [] pos) (iZipF X.K ta) := by
  refine ⟨fun pins s σ H R I h => ?_⟩
  refine Call_ (ld_blt I hg hm PyProof.Rows.boot_zip (PyProof.Rows.callWith_type1 (thn (ha.run pos pins s σ H _ I h) fun us s1 ⟨vs, H1, I1, r1, q1⟩ => ?_) hs hpl))
  obtain ⟨k1, k2, fz, a, b, xs, ys, ex, hkk, hqx, hqy, q⟩ := q1
  subst ex
  obtain ⟨u1, u2, rfl, ra, rb⟩ := vals2 r1
  cases ra
  cases rb
  have fresh : ∀ c, c ∈ [s1.heap.objs.size + 4, s1.heap.objs.size + 2, s1.heap.objs.size + 3, s1.heap.objs.size, s1.heap.objs.size + 1] → FpOk X pins H1 c := fun c hcm => by
    have hle : s1.heap.objs.size ≤ c := by
      rcases mem5 hcm with z | z | z | z | z <;> rw [z] <;> omega
    exact I1.fpOk hle (I1.hok.fresh hle)
  obtain ⟨its, rv, p1, _⟩ := seqK I1 hqx
  obtain ⟨its2, rv2, p2, _⟩ := seqK I1 hqy
  have D := PySem.W.ktu_apart s1.heap.objs.size a b p1.lt p2.lt
  cases k1 with
  | false =>
    cases k2 with
    | true => rcases hkk with z | z <;> cases z
    | false =>
      refine call_zip_2 p1 p2 fun h' hz hTI hTO h1 h2 hsz hk => wpAny_pyIter_zip hz ?_
      exact ⟨s1.heap.objs.size + 4, _, _, _, H1, rfl, I1.kept (t' := s1.toks) hk, turn_zipF (k1 := false) (k2 := false) D, ⟨hz, hTI, ⟨_, _, hTO⟩, h1, h2⟩, fresh, q⟩
  | true =>
    cases k2 with
    | true =>
      refine call_zipT p1 p2 fun h' hz hTI hTO h1 h2 hsz hk => wpAny_pyIter_zip hz ?_
      exact ⟨s1.heap.objs.size + 4, _, _, _, H1, rfl, I1.kept (t' := s1.toks) hk, turn_zipF (k1 := true) (k2 := true) D, ⟨hz, hTI, ⟨_, _, hTO⟩, h1, h2⟩, fresh, q⟩
    | false =>
      refine call_mix p1 p2 fun h' hz hTI hTO h1 h2 hk => wpAny_pyIter_zip hz ?_
      exact ⟨s1.heap.objs.size + 4, _, _, _, H1, rfl, I1.kept (t' := s1.toks) hk, turn_zipF (k1 := true) (k2 := false) D, ⟨hz, hTI, ⟨_, _, hTO⟩, h1, h2⟩, fresh, q⟩
end Rf
end

-- text RfF
section
set_option Elab.async false
set_option linter.all false
set_option maxRecDepth 100000
set_option maxHeartbeats 1000000
/-! RfF: what is walked, targets, comprehensions. -/
namespace Rf
open PySem PySem.Spec PyProof.Rows L2

/-! ### what is walked -/
theorem Po.mono {α β : Type} {S : Sx} {σ : L2.St} {H : Hp} {Z : Addr → Prop} {env : En} {fp : Nat → List Addr} {fx : List Addr} {T : Tp α β} {Q Q' : β → Hp → Prop} {r : R (α × En)} (h : Po S σ H Z env fp fx T Q r) (m : ∀ b H', Q b H' → Q' b H') : Po S σ H Z env fp fx T Q' r := by
  cases r with
  | ok x =>
    obtain ⟨a, env'⟩ := x
    exact fun b H' Z' fp' fr s2 k2 rel t ap => m _ _ (h b H' Z' fp' fr s2 k2 rel t ap)
  | exc c p env' => exact h
  | no => exact h
section
variable {K : PySem.W.Frag} {H0 : Hp} {Z0 : Addr → Prop} {a b : Addr} {xs ys : List V} {ds es : List D}
/-- a list or a tuple that changes no more -/
theorem rp_seqL {v : V} (h : Rp K H0 Z0 v (.list ds)) : ∃ a xs, v = .ref a ∧ RpAll K H0 Z0 xs ds ∧ ∀ H Z, Pers H0 Z0 H Z → SqL K H a xs := by
  cases h with
  | lst z r q => exact ⟨_, _, rfl, q, fun H Z p => .inl (r.elim (fun e => .inl (p.2 _ _ z e)) fun ⟨o, e⟩ => .inr ⟨o, p.2 _ _ z e⟩)⟩
  | slst r q => exact ⟨_, _, rfl, q, fun H Z p => r H⟩
theorem rp_seqT {v : V} (h : Rp K H0 Z0 v (.tuple ds)) : ∃ a xs, v = .ref a ∧ RpAll K H0 Z0 xs ds ∧ ∀ H Z, Pers H0 Z0 H Z → SqT K H a xs := by
  cases h with
  | tup _ z _ r q => exact ⟨_, _, rfl, q, fun H Z p => .inl (tpl_rd (p.2 _ _ z r))⟩
  | stup _ r q => exact ⟨_, _, rfl, q, fun H Z p => r H⟩
theorem walkD_at {J : It} {G : Hp → Prop} (w : Walk J xs.length G (YAt xs)) (q : RpAll K H0 Z0 xs ds) (hg : ∀ H Z, Pers H0 Z0 H Z → G H) : WalkD K J ds H0 Z0 := by
  refine ⟨G, YAt xs, by rw [← q.length]; exact w, hg, fun i H Z v H1 p z hi y => ?_⟩
  obtain ⟨rfl, e⟩ := y
  obtain ⟨d, hd, hr⟩ := q.get e
  exact ⟨d, Z, hd, .refl, z, hr.pers p⟩
theorem walkD_list (q : RpAll K H0 Z0 xs ds) (hg : ∀ H Z, Pers H0 Z0 H Z → SqL K H a xs) : WalkD K (Itl K a) ds H0 Z0 := walkD_at walk_list q hg
theorem walkD_tup (q : RpAll K H0 Z0 xs ds) (hg : ∀ H Z, Pers H0 Z0 H Z → SqT K H a xs) : WalkD K (Itt K a) ds H0 Z0 := walkD_at walk_tup q hg
theorem walkD_str {z : Str} (f : StrFit z) : WalkD K (Its z) (z.cps.toList.map fun c => .str ⟨#[c]⟩) H0 Z0 := by
  refine ⟨fun _ => True, _, by rw [List.length_map, Array.length_toList]; exact walk_str, fun _ _ _ => trivial, fun i H Z v H1 p zk hi y => ?_⟩
  obtain ⟨rfl, c, hc, rfl⟩ := y
  have hm : c ∈ z.cps.toList := by
    have := Array.mem_of_getElem? hc
    simpa using this
  exact ⟨_, Z, by rw [List.getElem?_map, Array.getElem?_toList, hc]; rfl, .refl, zk, .str _ (f.one hm)⟩
theorem walkD_range {lo : Int} {n : Nat} : WalkD K (L2.Itr lo n) ((List.range n).map fun i : Nat => .int (lo + (i : Int))) H0 Z0 := by
  refine ⟨fun _ => True, _, by rw [List.length_map, List.length_range]; exact walk_range, fun _ _ _ => trivial, fun i H Z v H1 p zk hi y => ?_⟩
  obtain ⟨rfl, rfl⟩ := y
  have hi' : i < n := by simpa using hi
  exact ⟨_, Z, by rw [List.getElem?_map, List.getElem?_range hi']; rfl, .refl, zk, .int _⟩
theorem walkD_rangeC {lo c : Int} {n : Nat} : WalkD K (Itc lo c n) ((List.range n).map fun i : Nat => .int (lo + (i : Int) * c)) H0 Z0 := by
  refine ⟨fun _ => True, YFn fun i => .int (lo + (i : Nat) * c), by rw [List.length_map, List.length_range]; exact walk_rangeC, fun _ _ _ => trivial, fun i H Z v H1 _ zk hi y => ?_⟩
  obtain ⟨rfl, rfl⟩ := y
  exact ⟨_, Z, by rw [List.getElem?_map, List.getElem?_range (by simpa using hi)]; rfl, .refl, zk, .int _⟩
/-- what the i-th pair is told as -/
def fzAt (zs : List D) (i : Nat) : Bool := match zs[i]? with
  | some (.tuple ds) => cleanB ds
  | _ => true
theorem walkD_pairF {J : It} {G : Hp → Prop} {n : Nat} {f g : Nat → Option V} {zs : List D} (w : Walk J n G fun i H v H' => ∃ T o x y, v = .ref T ∧ H T = none ∧ o.dict = none ∧ H' = upd H T (tpl (fzAt zs i) o [x, y]) ∧ f i = some x ∧ g i = some y) (hg : ∀ H Z, Pers H0 Z0 H Z → G H) (hn : zs.length = n)
    (hz : ∀ i x y, i < n → f i = some x → g i = some y → ∃ d e, zs[i]? = some (.tuple [d, e]) ∧ Rp K H0 Z0 x d ∧ Rp K H0 Z0 y e) : WalkD K J zs H0 Z0 := by
  refine ⟨G, _, by rw [hn]; exact w, hg, fun i H Z v H1 p zk hi y => ?_⟩
  obtain ⟨T, o, x, y, rfl, nT, ho, rfl, hx, hy⟩ := y
  obtain ⟨d, e, hz, rx, ry⟩ := hz i x y (by omega) hx hy
  have hf : fzAt zs i = cleanB [d, e] := by unfold fzAt; rw [hz]
  refine ⟨_, zadd Z T, hz, .newZ nT, zk.newZ, .tup o (.inr rfl) ho (by rw [upd_same, hf]) ?_⟩
  exact .cons ((rx.pers p).grow (.newZ nT)) (.cons ((ry.pers p).grow (.newZ nT)) .nil)
theorem rp_seqK {d : D} {v : V} (h : Rp K H0 Z0 v d) (xs : List D) (hd : d = .list xs ∨ d = .tuple xs) : ∃ a ys, v = .ref a ∧ RpAll K H0 Z0 ys xs ∧ ∀ H Z, Pers H0 Z0 H Z → SqK (match d with | .tuple _ => true | _ => false) K H a ys := by
  rcases hd with rfl | rfl
  · exact rp_seqL h
  · exact rp_seqT h
theorem zipD_get {i : Nat} {d e : D} (h1 : ds[i]? = some d) (h2 : es[i]? = some e) : (zipD ds es)[i]? = some (.tuple [d, e]) := by
  unfold zipD
  rw [List.getElem?_zipWith, h1, h2]
theorem walk_zipF {k1 k2 : Bool} {fz : Nat → Bool} {n : Nat} (hn : n = min xs.length ys.length) : Walk (ItzF K k1 k2 fz a b) n (fun H => SqK k1 K H a xs ∧ SqK k2 K H b ys) fun i H v H' => ∃ T o x y, v = .ref T ∧ H T = none ∧ o.dict = none ∧ H' = upd H T (tpl (fz i) o [x, y]) ∧ xs[i]? = some x ∧ ys[i]? = some y := by
  subst hn
  refine ⟨fun i _ hi q => ?_, fun _ q => ⟨xs, ys, q.1, q.2, by omega⟩, fun i H v H' _ q y => ?_⟩
  · exact ⟨xs, ys, _, _, q.1, q.2, List.getElem?_eq_getElem (by omega), List.getElem?_eq_getElem (by omega)⟩
  · obtain ⟨T, o, x, z, h1, h2, h3, h4, h5, h6⟩ := y
    exact ⟨T, o, x, z, h1, h2, h3, h4, h5 xs q.1, h6 ys q.2⟩
theorem walkD_zipF {k1 k2 : Bool} (q1 : RpAll K H0 Z0 xs ds) (h1 : ∀ H Z, Pers H0 Z0 H Z → SqK k1 K H a xs) (q2 : RpAll K H0 Z0 ys es) (h2 : ∀ H Z, Pers H0 Z0 H Z → SqK k2 K H b ys) : WalkD K (ItzF K k1 k2 (fzAt (zipD ds es)) a b) (zipD ds es) H0 Z0 := by
  refine walkD_pairF (walk_zipF rfl) (fun H Z p => ⟨h1 H Z p, h2 H Z p⟩) ?_ fun i x y hi hx hy => ?_
  · unfold zipD
    rw [List.length_zipWith, q1.length, q2.length]
  · obtain ⟨d, hd, rd⟩ := q1.get hx
    obtain ⟨e, he, re⟩ := q2.get hy
    exact ⟨d, e, zipD_get hd he, rd, re⟩
theorem enuD_get {i : Nat} {d : D} (h : ds[i]? = some d) : (enuD ds)[i]? = some (.tuple [.int (i : Nat), d]) := by
  unfold enuD
  have hi := (List.getElem?_eq_some_iff.mp h).1
  rw [List.getElem?_zipWith, h, List.getElem?_range hi]
theorem walk_enuF {k : Bool} {fz : Nat → Bool} : Walk (ItE K k fz a) xs.length (fun H => SqK k K H a xs) fun i H v H' => ∃ T o x y, v = .ref T ∧ H T = none ∧ o.dict = none ∧ H' = upd H T (tpl (fz i) o [x, y]) ∧ some (V.int (i : Nat)) = some x ∧ xs[i]? = some y := by
  refine ⟨fun i _ hi q => ⟨xs, xs[i], q, by simp [hi]⟩, fun _ q => ⟨xs, q, rfl⟩, fun i H v H' _ q y => ?_⟩
  obtain ⟨T, o, x, z1, z2, z3, z4, z5⟩ := y
  exact ⟨T, o, .int (i : Nat), x, z1, z2, z3, z4, rfl, z5 xs q⟩
theorem walkD_enuF {k : Bool} (q1 : RpAll K H0 Z0 xs ds) (h1 : ∀ H Z, Pers H0 Z0 H Z → SqK k K H a xs) : WalkD K (ItE K k (fzAt (enuD ds)) a) (enuD ds) H0 Z0 := by
  refine walkD_pairF (f := fun i => some (V.int (i : Nat))) (g := fun i => xs[i]?) walk_enuF h1 ?_ fun i x y hi hx hy => ?_
  · unfold enuD
    rw [List.length_zipWith, List.length_range, q1.length, Nat.min_self]
  · obtain ⟨d, hd, rd⟩ := q1.get hy
    cases hx
    exact ⟨_, d, enuD_get hd, .int _, rd⟩
end

/-! keys of a dict that is locked -/
theorem KvR.keyAt {K : PySem.W.Frag} {H : Hp} {Z : Addr → Prop} : ∀ {ws : List (Key × V)} {kvs : List (D × D)} {i : Nat} {k : Key} {u : V}, KvR K H Z ws kvs → ws[i]? = some (k, u) → ∃ dk dv, kvs[i]? = some (dk, dv) ∧ keyOf dk = some k ∧ KeyFit dk
  | _, _, _, _, _, .nil, h => by simp at h
  | _, _, 0, _, _, .cons h1 hf h2 h3, h => by
    simp at h
    obtain ⟨rfl, rfl⟩ := h
    exact ⟨_, _, rfl, h1, hf⟩
  | _, _, i + 1, _, _, .cons h1 hf h2 h3, h => by
    simp only [List.getElem?_cons_succ] at h ⊢
    exact h3.keyAt h
theorem rp_key {K : PySem.W.Frag} {H : Hp} {Z : Addr → Prop} {dk : D} {k : Key} (h : keyOf dk = some k) (hf : KeyFit dk) : Rp K H Z (kV k) dk := by
  cases dk with
  | int i => cases h; exact .int _
  | str z => cases h; exact .str _ hf
  | _ => cases h
theorem walkD_keys {K : PySem.W.Frag} {H0 : Hp} {Z0 : Addr → Prop} {d : Addr} {o : Obj} {ws : List (Key × V)} {kvs : List (D × D)} (h : KvR K H0 Z0 ws kvs) (hg : ∀ H Z, Pers H0 Z0 H Z → H d = some (.frz o (.dK ws))) : WalkD K (Itk d o ws) (kvs.map (·.1)) H0 Z0 := by
  refine ⟨_, _, by rw [List.length_map, ← h.length]; exact walk_keys, hg, fun i H Z v H1 p zk hi y => ?_⟩
  obtain ⟨rfl, k, u, e, rfl⟩ := y
  obtain ⟨dk, dv, e2, hk, hf⟩ := h.keyAt e
  exact ⟨dk, Z, by rw [List.getElem?_map, e2]; rfl, .refl, zk, rp_key hk hf⟩
def tLockO (te : TE) : TE := fun σ H Q => te σ H fun x H1 => ∃ d u, x = .ref d ∧ ((H1 d = some u ∧ Mut (some u) ∧ ∀ od, Q x (upd H1 d (.frz od u))) ∨ Q x H1)
theorem pe_lockO {X : Cx} {e : Expr} {te : TE} (he : PE X e te) : PE X e (tLockO te) := by
  refine ⟨fun pins s σ H Q I h => ?_⟩
  refine thn (he.run pins s σ H _ I h) fun u s1 ⟨x, H1, I1, rx, d, uo, ex, q⟩ => ?_
  rcases q with ⟨hd, mu, q⟩ | q
  · obtain ⟨od, I2⟩ := I1.lock hd mu
    exact ⟨x, _, I2, rx, q od⟩
  · exact ⟨x, H1, I1, rx, q⟩
section
variable {X : Cx} {tg : Expr} {pins : List (Addr × Obj)} {σ : L2.St} {H1 : Hp} {s1 : Shared} {R : It → Hp → Prop} {E : Value → Shared → Prop}
theorem it_list {a : Addr} {v : Value} (I1 : Inv X pins σ H1 s1) (r1 : RelV (.ref a) v) (hx : ∃ xs, SqL X.K H1 a xs) (q : R (Itl X.K a) H1) : wpAny (model X.prog X.w) X.A (pyIter v) (PIE X pins σ tg R) E s1 := by
  obtain ⟨xs, hq⟩ := hx
  cases r1
  obtain ⟨its, rv, p, hz⟩ := I1.list hq
  refine wpAny_pyIter_list p.isList ?_
  refine ⟨s1.heap.objs.size, [s1.heap.objs.size], _, _, H1, rfl, I1.kept (t' := s1.toks) fun b o e => Heap.get?_push_of_some _ e, turn_list a _, ⟨_, Heap.get?_push_size _ rfl, rfl, rfl⟩, fun b hb => ?_, q⟩
  have e : b = s1.heap.objs.size := by simpa using hb
  subst e
  exact I1.fpOk (Nat.le_refl _) (I1.hok.fresh (Nat.le_refl _))
theorem it_tup {a : Addr} {v : Value} (I1 : Inv X pins σ H1 s1) (r1 : RelV (.ref a) v) (hx : ∃ xs, SqT X.K H1 a xs) (q : R (Itt X.K a) H1) : wpAny (model X.prog X.w) X.A (pyIter v) (PIE X pins σ tg R) E s1 := by
  obtain ⟨xs, hq⟩ := hx
  cases r1
  obtain ⟨its, rv, p, hz⟩ := I1.tuple hq
  refine wpAny_pyIter_tuple (show s1.heap.IsTuple a its.toArray from p) ?_
  refine ⟨s1.heap.objs.size, [s1.heap.objs.size], _, _, H1, rfl, I1.kept (t' := s1.toks) fun b o e => Heap.get?_push_of_some _ e, turn_tuple a _, ⟨_, Heap.get?_push_size _ rfl, rfl, rfl⟩, fun b hb => ?_, q⟩
  have e : b = s1.heap.objs.size := by simpa using hb
  subst e
  exact I1.fpOk (Nat.le_refl _) (I1.hok.fresh (Nat.le_refl _))
theorem it_str {x : Str} {v : Value} (I1 : Inv X pins σ H1 s1) (r1 : RelV (.str x) v) (q : R (Its x) H1) : wpAny (model X.prog X.w) X.A (pyIter v) (PIE X pins σ tg R) E s1 := by
  obtain ⟨t, rfl⟩ := r1
  cases ha : x.cps.all (· < 128)
  · exact wpAny_pyIter_wide ha (pi_one (tk := s1.toks) I1 _ (turn_str _ x t "str_iterator" (.inr rfl)) ⟨_, Heap.get?_push_size _ rfl, rfl, rfl⟩ q)
  · exact wpAny_pyIter_ascii ha (pi_one (tk := s1.toks) I1 _ (turn_str _ x t "str_ascii_iterator" (.inl rfl)) ⟨_, Heap.get?_push_size _ rfl, rfl, rfl⟩ q)
end

section
variable {X : Cx} {S : Sx} (hK : S.K = X.K)
include hK
/-- for x in e: a list, a tuple or a text -/
theorem ok_I_seq {e : E} {tg y : Expr} (he : PE X y (rdE S e)) : PI X tg y (rdI S (.seq e)) := by
  refine ⟨fun pins s σ H R I h => ?_⟩
  obtain ⟨Z, env, fp, rel, h⟩ := h
  unfold evI at h
  -- which kind it is hangs on the data
  have key : rdE S e σ H fun v H1 => (∃ a, v = .ref a ∧ (∃ xs, SqL X.K H1 a xs) ∧ R (Itl X.K a) H1) ∨ (∃ a, v = .ref a ∧ (∃ xs, SqT X.K H1 a xs) ∧ R (Itt X.K a) H1) ∨ (∃ z, v = .str z ∧ R (Its z) H1) := by
    refine ⟨Z, env, fp, rel, Po.seq h fun re e1 v H1 Z1 fp1 fr1 st1 kp1 rel1 t1 ap1 h => ?_⟩
    obtain ⟨d, e2, Z2, fp2, _, st2, kp2, rel2, hd, h⟩ := Po.frz h t1 rel1 ap1
    dsimp only at h
    split at h
    · obtain ⟨a, xs, rfl, q, hp⟩ := rp_seqL hd
      rw [hK] at hp
      exact .inl ⟨a, rfl, ⟨xs, hp _ _ .refl⟩, h.now rel2 .refl rel2.zs (fr := []) (by simp) ⟨by rw [hK] at q ⊢; exact walkD_list q hp, rfl⟩⟩
    · obtain ⟨a, xs, rfl, q, hp⟩ := rp_seqT hd
      rw [hK] at hp
      exact .inr (.inl ⟨a, rfl, ⟨xs, hp _ _ .refl⟩, h.now rel2 .refl rel2.zs (fr := []) (by simp) ⟨by rw [hK] at q ⊢; exact walkD_tup q hp, rfl⟩⟩)
    · cases hd with
      | str w f => exact .inr (.inr ⟨_, rfl, h.now rel2 .refl rel2.zs (fr := []) (by simp) ⟨walkD_str f, rfl⟩⟩)
    · exact h.elim
  refine thn (he.run pins s σ H _ I key) fun v s1 ⟨x, H1, I1, r1, q1⟩ => ?_
  rcases q1 with ⟨a, rfl, hx, q⟩ | ⟨a, rfl, hx, q⟩ | ⟨z, rfl, q⟩
  · exact it_list I1 r1 hx q
  · exact it_tup I1 r1 hx q
  · exact it_str I1 r1 q
omit hK in
theorem evDs_len : ∀ {es : Es} {M : Mach} {env e1 : En} {ds : List D} {xs : List Expr} {C : Ck}, chkEs C es xs = true → evDs M es env = .ok (ds, e1) → ds.length = xs.length
  | .nil, M, env, e1, ds, [], C, _, h => by unfold evDs at h; cases h; rfl
  | .nil, M, env, e1, ds, _ :: _, C, c, _ => by simp [chkEs] at c
  | .cons _ _, M, env, e1, ds, [], C, c, _ => by simp [chkEs] at c
  | .cons e r, M, env, e1, ds, y :: ys, C, c, h => by
    simp only [chkEs, Bool.and_eq_true] at c
    unfold evDs at h
    cases h1 : evE M e env with
    | no => rw [h1] at h; cases h
    | exc => rw [h1] at h; cases h
    | ok x =>
      rw [h1] at h
      simp only [R.bind_ok] at h
      cases h2 : frz x.2 x.1 with
      | none => rw [h2] at h; cases h
      | some p =>
        rw [h2] at h
        simp only [R.opt_some, R.bind_ok] at h
        cases h3 : evDs M r p.2 with
        | no => rw [h3] at h; cases h
        | exc => rw [h3] at h; cases h
        | ok q =>
          rw [h3] at h
          cases h
          have := evDs_len c.2 h3
          simp [this]
theorem rng_core {es : Es} {C : Ck} {xs : List Expr} (c : chkEs C es xs = true) {σ : L2.St} {H : Hp} {Q : It → Hp → Prop} (h : rdI S (.rng es) σ H Q) :
    rdDs S es σ H fun vs H1 => (∃ j : Int, vs.length = xs.length ∧ vs = [.int j] ∧ -(2 ^ 62) ≤ j ∧ j < 2 ^ 62 ∧ Q (L2.Itr 0 j.toNat) H1) ∨ (∃ i j : Int, vs.length = xs.length ∧ vs = [.int i, .int j] ∧ (-(2 ^ 62) ≤ i ∧ i < 2 ^ 62 ∧ -(2 ^ 62) ≤ j ∧ j < 2 ^ 62) ∧ Q (L2.Itr i (j - i).toNat) H1)
      ∨ (∃ (i j : Int), vs.length = xs.length ∧ vs = [.int i, .int j, .int (-1)] ∧ (-(2 ^ 62) ≤ i ∧ i < 2 ^ 62 ∧ -(2 ^ 62) ≤ j ∧ j < 2 ^ 62) ∧ Q (Itc i (-1) (i - j).toNat) H1) := by
  obtain ⟨Z, env, fp, rel, h⟩ := h
  unfold evI at h
  have hl : ∀ ds e1, evDs S.M es env = .ok (ds, e1) → ds.length = xs.length := fun ds e1 e => evDs_len c e
  cases q : evDs S.M es env with
  | no => rw [q] at h; exact h.elim
  | exc a b d => exact ⟨Z, env, fp, rel, by rw [q] at h ⊢; exact h⟩
  | ok x =>
    obtain ⟨ds0, e0⟩ := x
    have hl0 := hl _ _ q
    refine ⟨Z, env, fp, rel, ?_⟩
    rw [q] at h ⊢
    intro vs H1 Z1 fp1 fr1 st1 kp1 rel1 t1 ap1
    obtain ⟨t1, rfl⟩ := t1
    have hvl : vs.length = xs.length := by rw [t1.length]; exact hl0
    have h := Po.adv (show Po S σ H Z env fp [] (tI S) Q ((R.opt (rngD ds0)).bind fun xs => .ok (xs, e0)) from h) st1 kp1
    obtain ⟨zs, ex, h⟩ := h.opt
    unfold rngD at ex
    split at ex
    · split at ex
      · rename_i hj
        cases ex
        simp only [Bool.and_eq_true, decide_eq_true_eq] at hj
        cases t1 with
        | cons r1 r2 =>
          cases r1
          cases r2 with
          | cons r2 r3 =>
            cases r2
            cases r3 with
            | cons r3 r4 =>
              cases r3
              cases r4
              exact .inr (.inr ⟨_, _, hvl, rfl, ⟨hj.1.1.1.1, hj.1.1.1.2, hj.1.1.2, hj.1.2⟩, h.now rel1 .refl rel1.zs (fr := []) (by simp) ⟨walkD_rangeC, rfl⟩⟩)
      · cases ex
    · split at ex
      · rename_i hj
        cases ex
        simp only [Bool.and_eq_true, decide_eq_true_eq] at hj
        cases t1 with
        | cons r1 r2 =>
          cases r1
          cases r2
          exact .inl ⟨_, hvl, rfl, hj.1, by omega, h.now rel1 .refl rel1.zs (fr := []) (by simp) ⟨walkD_range, rfl⟩⟩
      · cases ex
    · split at ex
      · rename_i hj
        cases ex
        simp only [Bool.and_eq_true, decide_eq_true_eq] at hj
        cases t1 with
        | cons r1 r2 =>
          cases r1
          cases r2 with
          | cons r2 r3 =>
            cases r2
            cases r3
            exact .inr (.inl ⟨_, _, hvl, rfl, ⟨hj.1.1.1.1, hj.1.1.1.2, hj.1.1.2, hj.1.2⟩, h.now rel1 .refl rel1.zs (fr := []) (by simp) ⟨walkD_range, rfl⟩⟩)
      · cases ex
    · cases ex
theorem ok_I_rng1 {es : Es} {C : Ck} {a tg : Expr} {p pos : Pos} (c : chkEs C es [a] = true) (hg : Gl X "range") (hm : X.mg "range" = none) (h : PA X [a] (rdDs S es)) (hs : starEach [a] X.env = [(false, eval a X.env)]) : PI X tg (.Call (.Name "range" p) [a] [] pos) (rdI S (.rng es)) := by
  refine (pi_range1 hg hm (h.imp fun σ H Q h => h) hs).imp fun σ H Q h => ?_
  obtain ⟨Z, env, fp, rel, h⟩ := rng_core hK c h
  refine ⟨Z, env, fp, rel, ?_⟩
  refine Po.mono h fun vs H1 q => ?_
  rcases q with ⟨j, _, q⟩ | ⟨i, j, hl, rfl, _⟩ | ⟨i, j, hl, rfl, _⟩
  · exact ⟨j, q⟩
  · simp at hl
  · simp at hl
theorem ok_I_rng2 {es : Es} {C : Ck} {a b tg : Expr} {p pos : Pos} (c : chkEs C es [a, b] = true) (hg : Gl X "range") (hm : X.mg "range" = none) (h : PA X [a, b] (rdDs S es)) (hs : starEach [a, b] X.env = [(false, eval a X.env), (false, eval b X.env)]) (hs2 : starEach [b] X.env = [(false, eval b X.env)]) : PI X tg (.Call (.Name "range" p) [a, b] [] pos) (rdI S (.rng es)) := by
  refine (pi_range2 hg hm (h.imp fun σ H Q h => h) hs hs2).imp fun σ H Q h => ?_
  obtain ⟨Z, env, fp, rel, h⟩ := rng_core hK c h
  refine ⟨Z, env, fp, rel, ?_⟩
  refine Po.mono h fun vs H1 q => ?_
  rcases q with ⟨j, hl, rfl, _⟩ | ⟨i, j, _, q⟩ | ⟨i, j, hl, rfl, _⟩
  · simp at hl
  · exact ⟨i, j, q⟩
  · simp at hl
theorem ok_I_rng3 {es : Es} {C : Ck} {a b d tg : Expr} {p pos : Pos} (c : chkEs C es [a, b, d] = true) (hg : Gl X "range") (hm : X.mg "range" = none) (h : PA X [a, b, d] (rdDs S es)) (hs : starEach [a, b, d] X.env = (false, eval a X.env) :: starEach [b, d] X.env) (hs2 : (backTo pos (starEach [b, d] X.env)).any (·.1) = false) : PI X tg (.Call (.Name "range" p) [a, b, d] [] pos) (rdI S (.rng es)) := by
  refine (pi_range3 hg hm (h.imp fun σ H Q h => h) hs hs2).imp fun σ H Q h => ?_
  obtain ⟨Z, env, fp, rel, h⟩ := rng_core hK c h
  refine ⟨Z, env, fp, rel, ?_⟩
  refine Po.mono h fun vs H1 q => ?_
  rcases q with ⟨j, hl, rfl, _⟩ | ⟨i, j, hl, rfl, _⟩ | ⟨i, j, _, e, b, q⟩
  · simp at hl
  · simp at hl
  · exact ⟨i, j, -1, _, e, RgC.neg b.1 b.2.1 b.2.2.1 b.2.2.2, q⟩
theorem ok_I_kys {i : Nat} {z : Str} {p1 : Pos} {tg : Expr} (hv : PE X (.Name z p1) (tVar i)) : PI X tg (.Name z p1) (rdI S (.kys i)) := by
  refine (pi_keys (pe_lockO hv)).imp fun σ H Q h => ?_
  obtain ⟨Z, env, fp, rel, h⟩ := h
  unfold evI at h
  split at h
  · rename_i kvs hs
    obtain ⟨v, hv, hr⟩ := rel.at_ i _ hs
    obtain ⟨l, ws, rfl, hf, eh, ra, nz⟩ := hr
    refine ⟨.ref l, hv, l, .dK ws, rfl, .inl ⟨eh, trivial, fun od => ⟨l, od, rfl, .inl ⟨ws, upd_same, ?_⟩⟩⟩⟩
    have hi := slot_lt hs
    have oa : Ow fp l := ⟨i, by rw [hf]; simp⟩
    have hzo : ∀ a, Z a → ¬ a = l := fun a z e => nz (e ▸ z)
    have st : Step H Z (fun a => a = l) (upd H l (.frz od (.dK ws))) (zadd Z l) (fun _ => False) := ⟨fun _ h => .inl h, fun x o e n => ⟨by rw [upd_ne n]; exact e, fun z => z.elim id fun q => absurd q n⟩, fun _ h => h.elim⟩
    have ra' : KvR S.K (upd H l (.frz od (.dK ws))) (zadd Z l) ws kvs := ra.mono (fun _ h => .inl h) fun a o z e => by rw [upd_ne (hzo a z)]; exact e
    refine h (Itk l od ws) _ (zadd Z l) (fun j => if j = i then [] else fp j) [] ⟨fun _ h => .inl h, fun x o e n => ?_, fun x hx => ?_⟩ .set ⟨fun j s hs2 => ?_, fun j hj => ?_, fun j k x h1 h2 => ?_, by rw [List.length_set]; exact rel.len, fun x hx => ?_⟩ ⟨walkD_keys ra' fun H Z p => p.2 l _ (.inr rfl) upd_same, rfl⟩ (by simp)
    · have nl : ¬ x = l := fun q => n (.inl (q ▸ oa))
      exact ⟨by rw [upd_ne nl]; exact e, fun z => z.elim id fun q => absurd q nl⟩
    · rcases hx with ⟨j, hj⟩ | hx
      · change x ∈ (if j = i then [] else fp j) at hj
        split at hj
        · simp at hj
        · exact .inl (.inl ⟨j, hj⟩)
      · simp at hx
    · rw [slot_set hi] at hs2
      by_cases q : i = j
      · subst q
        rw [if_pos rfl] at hs2
        cases hs2
        exact ⟨_, hv, l, ws, od, rfl, by rw [if_pos rfl], .inr rfl, upd_same, ra'⟩
      · rw [if_neg q] at hs2
        obtain ⟨u, g1, g2⟩ := rel.at_ j s hs2
        rw [if_neg (Ne.symm q)]
        exact ⟨u, g1, g2.step st hzo fun a ha e => q (rel.dj i j a (by rw [hf, e]; simp) ha)⟩
    · rw [slot_set hi] at hj
      by_cases q : i = j
      · rw [if_pos q.symm]
      · rw [if_neg q] at hj
        rw [if_neg (Ne.symm q)]
        exact rel.no_ j hj
    · change x ∈ (if j = i then [] else fp j) at h1
      change x ∈ (if k = i then [] else fp k) at h2
      split at h1
      · simp at h1
      · split at h2
        · simp at h2
        · exact rel.dj j k x h1 h2
    · by_cases q : x = l
      · subst q
        rw [upd_same]; exact fun q => nomatch q
      · rw [upd_ne q]
        exact rel.zs x (hx.elim id fun e => absurd e q)
  · rename_i kvs hs
    obtain ⟨v, hv, hr⟩ := rel.at_ i _ hs
    obtain ⟨l, ws, o, rfl, hf, z, eh, ra⟩ := hr
    exact ⟨.ref l, hv, l, .dK ws, rfl, .inr ⟨l, o, rfl, .inl ⟨ws, eh, h.now rel .refl rel.zs (fr := []) (by simp) ⟨walkD_keys ra fun H Z p => p.2 l _ z eh, rfl⟩⟩⟩⟩
  · exact h.elim
theorem ok_I_zip {a b : E} {u v : Expr} {elts : List Expr} {kk : Nat} {p pos tpos : Pos} (hg : Gl X "zip") (hm : X.mg "zip" = none) (ha : PE X u (rdE S a)) (hb : PE X v (rdE S b)) (hu : isStar u = false) (hv : isStar v = false) :
    PI X (.Tuple elts kk tpos) (.Call (.Name "zip" p) [u, v] [] pos) (rdI S (.zip a b)) := by
  have hs1 : starEach [u, v] X.env = (false, eval u X.env) :: starEach [v] X.env := star_plain hu _ _
  have hs2 : starEach [v] X.env = (false, eval v X.env) :: starEach [] X.env := star_plain hv _ _
  refine (pi_zipF hg hm (pa_cons ha (pa_cons hb pa_nil hs2) hs1) hs1 (by rw [hs2]; rfl)).imp fun σ H Q h => ?_
  obtain ⟨Z, env, fp, rel, h⟩ := h
  unfold evI at h
  refine ⟨Z, env, fp, rel, Po.seq h fun ra e1 x H1 Z1 fp1 fr1 st1 kp1 rel1 t1 ap1 h => ?_⟩
  obtain ⟨dx, e2, Z2, fp2, _, st2, kp2, rel2, hx, h⟩ := Po.frz h t1 rel1 ap1
  refine ⟨Z2, e2, fp2, rel2, Po.seq h fun rb e3 y H3 Z3 fp3 fr3 st3 kp3 rel3 t3 ap3 h => ?_⟩
  obtain ⟨dy, e4, Z4, fp4, _, st4, kp4, rel4, hy, h⟩ := Po.frz h t3 rel3 ap3
  have hx3 := hx.step st3 rel2.zo
  have hx4 : Rp S.K H3 Z4 x dx := hx3.mono st4.mono fun _ _ _ e => e
  dsimp only at h
  split at h
  · obtain ⟨pa, xs, rfl, q1, hp1⟩ := rp_seqL hx4
    obtain ⟨pb, ys, rfl, q2, hp2⟩ := rp_seqL hy
    rw [hK] at hp1 hp2 q1 q2
    exact ⟨false, false, _, pa, pb, xs, ys, rfl, .inr rfl, hp1 _ _ .refl, hp2 _ _ .refl, h.now rel4 .refl rel4.zs (fr := []) (by simp) ⟨by rw [hK]; exact walkD_zipF (k1 := false) (k2 := false) q1 hp1 q2 hp2, rfl⟩⟩
  · obtain ⟨pa, xs, rfl, q1, hp1⟩ := rp_seqT hx4
    obtain ⟨pb, ys, rfl, q2, hp2⟩ := rp_seqT hy
    rw [hK] at hp1 hp2 q1 q2
    exact ⟨true, true, _, pa, pb, xs, ys, rfl, .inl rfl, hp1 _ _ .refl, hp2 _ _ .refl, h.now rel4 .refl rel4.zs (fr := []) (by simp) ⟨by rw [hK]; exact walkD_zipF (k1 := true) (k2 := true) q1 hp1 q2 hp2, rfl⟩⟩
  · exact h.elim
theorem ok_I_zpm {a b : E} {u v : Expr} {elts : List Expr} {kk : Nat} {p pos tpos : Pos} (hg : Gl X "zip") (hm : X.mg "zip" = none) (ha : PE X u (rdE S a)) (hb : PE X v (rdE S b)) (hu : isStar u = false) (hv : isStar v = false) :
    PI X (.Tuple elts kk tpos) (.Call (.Name "zip" p) [u, v] [] pos) (rdI S (.zpm a b)) := by
  have hs1 : starEach [u, v] X.env = (false, eval u X.env) :: starEach [v] X.env := star_plain hu _ _
  have hs2 : starEach [v] X.env = (false, eval v X.env) :: starEach [] X.env := star_plain hv _ _
  refine (pi_zipF hg hm (pa_cons ha (pa_cons hb pa_nil hs2) hs1) hs1 (by rw [hs2]; rfl)).imp fun σ H Q h => ?_
  obtain ⟨Z, env, fp, rel, h⟩ := h
  unfold evI at h
  refine ⟨Z, env, fp, rel, Po.seq h fun ra e1 x H1 Z1 fp1 fr1 st1 kp1 rel1 t1 ap1 h => ?_⟩
  obtain ⟨dx, e2, Z2, fp2, _, st2, kp2, rel2, hx, h⟩ := Po.frz h t1 rel1 ap1
  refine ⟨Z2, e2, fp2, rel2, Po.seq h fun rb e3 y H3 Z3 fp3 fr3 st3 kp3 rel3 t3 ap3 h => ?_⟩
  obtain ⟨dy, e4, Z4, fp4, _, st4, kp4, rel4, hy, h⟩ := Po.frz h t3 rel3 ap3
  have hx4 : Rp S.K H3 Z4 x dx := (hx.step st3 rel2.zo).mono st4.mono fun _ _ _ e => e
  dsimp only at h
  split at h
  · obtain ⟨pa, xs, rfl, q1, hp1⟩ := rp_seqT hx4
    obtain ⟨pb, ys, rfl, q2, hp2⟩ := rp_seqL hy
    rw [hK] at hp1 hp2 q1 q2
    exact ⟨true, false, _, pa, pb, xs, ys, rfl, .inl rfl, hp1 _ _ .refl, hp2 _ _ .refl, h.now rel4 .refl rel4.zs (fr := []) (by simp) ⟨by rw [hK]; exact walkD_zipF (k1 := true) (k2 := false) q1 hp1 q2 hp2, rfl⟩⟩
  · exact h.elim
theorem ok_I_enu {a : E} {u : Expr} {elts : List Expr} {kk : Nat} {p pos tpos : Pos} (hg : Gl X "enumerate") (hm : X.mg "enumerate" = none) (ha : PE X u (rdE S a)) (hu : isStar u = false) :
    PI X (.Tuple elts kk tpos) (.Call (.Name "enumerate" p) [u] [] pos) (rdI S (.enu a)) := by
  have hs1 : starEach [u] X.env = (false, eval u X.env) :: starEach [] X.env := star_plain hu _ _
  refine (pi_enuA hg hm (pa_cons ha pa_nil hs1) hs1).imp fun σ H Q h => ?_
  obtain ⟨Z, env, fp, rel, h⟩ := h
  unfold evI at h
  refine ⟨Z, env, fp, rel, Po.seq h fun ra e1 x H1 Z1 fp1 fr1 st1 kp1 rel1 t1 ap1 h => ?_⟩
  obtain ⟨dx, e2, Z2, fp2, _, st2, kp2, rel2, hx, h⟩ := Po.frz h t1 rel1 ap1
  dsimp only at h
  split at h
  · obtain ⟨pa, xs, rfl, q1, hp1⟩ := rp_seqL hx
    rw [hK] at hp1 q1
    exact ⟨false, _, pa, xs, rfl, hp1 _ _ .refl, h.now rel2 .refl rel2.zs (fr := []) (by simp) ⟨by rw [hK]; exact walkD_enuF (k := false) q1 hp1, rfl⟩⟩
  · obtain ⟨pa, xs, rfl, q1, hp1⟩ := rp_seqT hx
    rw [hK] at hp1 q1
    exact ⟨true, _, pa, xs, rfl, hp1 _ _ .refl, h.now rel2 .refl rel2.zs (fr := []) (by simp) ⟨by rw [hK]; exact walkD_enuF (k := true) q1 hp1, rfl⟩⟩
  · exact h.elim
end
end Rf
end

-- text RfG
section
set_option Elab.async false
set_option linter.all false
set_option maxRecDepth 100000
set_option maxHeartbeats 1000000
/-! RfG: targets, comprehensions. -/
namespace Rf
open PySem PySem.Spec PyProof.Rows L2

theorem wipe_in {σ : L2.St} {i : Nat} : ∀ {vs : List Nat}, i ∈ vs → i < σ.length → (wipe σ vs)[i]? = some none
  | [], h, _ => by simp at h
  | v :: vs, h, hl => by
    unfold wipe
    by_cases e : v = i
    · subst e
      rw [List.getElem?_set_self (by rw [wipe_length]; exact hl)]
    · rw [List.getElem?_set_ne e]
      exact wipe_in ((List.mem_cons.mp h).resolve_left fun q => e q.symm) hl
theorem wipe_eq {σ σ' : L2.St} {vs : List Nat} (hl : σ'.length = σ.length) (h : ∀ i, i ∉ vs → σ'[i]? = σ[i]?) : wipe σ' vs = wipe σ vs := by
  apply List.ext_getElem?
  intro i
  by_cases hi : i ∈ vs
  · by_cases hn : i < σ.length
    · rw [wipe_in hi hn, wipe_in hi (by omega)]
    · rw [List.getElem?_eq_none (by rw [wipe_length]; omega), List.getElem?_eq_none (by rw [wipe_length]; omega)]
  · rw [wipe_out hi, wipe_out hi]
    exact h i hi
/-- only these slots are changed -/
structure Chg (M : Mach) (ts : List Nat) (σ σ' : L2.St) : Prop where
  len : σ'.length = σ.length
  off : ∀ i, i ∉ ts → σ'[i]? = σ[i]?
  pin : ∀ i, M.pin.contains i = true → σ'[i]? = σ[i]?
theorem Chg.refl {M : Mach} {ts : List Nat} {σ : L2.St} : Chg M ts σ σ := ⟨rfl, fun _ _ => rfl, fun _ _ => rfl⟩
theorem Chg.trans {M : Mach} {ts us ws : List Nat} {σ σ1 σ2 : L2.St} (a : Chg M ts σ σ1) (b : Chg M us σ1 σ2) (h1 : ∀ i ∈ ts, i ∈ ws) (h2 : ∀ i ∈ us, i ∈ ws) : Chg M ws σ σ2 :=
  ⟨b.len.trans a.len, fun i h => (b.off i fun q => h (h2 i q)).trans (a.off i fun q => h (h1 i q)), fun i h => (b.pin i h).trans (a.pin i h)⟩
def rdG (S : Sx) (t : Tg) : TG := fun v σ H Q => ∃ Z env fp d env', Rel S.K H Z env σ fp ∧ Rp S.K H Z v d ∧ asgD S.M t d env = some env' ∧
  ∀ σ' fp', Rel S.K H Z env' σ' fp' → (∀ a, Ow fp' a → Ow fp a) → Chg S.M (tgs t) σ σ' → Q σ' H
def rdGs (S : Sx) (ts : Tgs) : TGs := fun vs σ H Q => ∃ Z env fp ds env', Rel S.K H Z env σ fp ∧ RpAll S.K H Z vs ds ∧ asgDs S.M ts ds env = some env' ∧
  ∀ σ' fp', Rel S.K H Z env' σ' fp' → (∀ a, Ow fp' a → Ow fp a) → Chg S.M (tgss ts) σ σ' → Q σ' H
theorem _root_.L2.PG.imp {X : Cx} {x : Expr} {t t' : TG} (h : PG X x t) (i : ∀ v σ H Q, t' v σ H Q → t v σ H Q) : PG X x t' := ⟨fun pins s σ H v u Q I r q => h.run pins s σ H v u Q I r (i v σ H Q q)⟩
theorem _root_.L2.PGs.imp {X : Cx} {x : List Expr} {t t' : TGs} (h : PGs X x t) (i : ∀ v σ H Q, t' v σ H Q → t v σ H Q) : PGs X x t' := ⟨fun pins s σ H v u Q I r q => h.run pins s σ H v u Q I r (i v σ H Q q)⟩
theorem chkTg_nostar {C : Ck} {t : Tg} {x : Expr} (h : chkTg C t x = true) : ∀ (xs : List Expr) (env : Env), assignEach (x :: xs) env = (false, assign x env) :: assignEach xs env := fun xs env => by
  cases x <;> first | rfl | (cases t <;> simp [chkTg] at h)

section
variable {X : Cx} {S : Sx} (hK : S.K = X.K)
include hK
theorem store_ok' {H : Hp} {Z : Addr → Prop} {env env' : En} {σ : L2.St} {fp : Nat → List Addr} {i : Nat} {s : Sv} {v : V} {f : List Addr} (rel : Rel S.K H Z env σ fp) (h : store S.M env i s = some env') (hs : SvR S.K H Z s v f) (hf : ∀ a ∈ f, ∀ j, j ≠ i → a ∉ fp j) :
    Rel S.K H Z env' (σ.set i (some v)) (fun j => if j = i then f else fp j) ∧ Chg S.M [i] σ (σ.set i (some v)) := by
  unfold store at h
  split at h
  · cases h
  · rename_i hp
    split at h
    · rename_i hl
      cases h
      refine ⟨rel.put hl hs hf, by simp, fun j hj => List.getElem?_set_ne (by simp at hj; omega), fun j hj => List.getElem?_set_ne fun e => hp (by rw [e]; exact hj)⟩
    · cases h
omit hK in
theorem chkTgs_flags {C : Ck} : ∀ {ts : Tgs} {xs : List Expr} (env : Env), chkTgs C ts xs = true → (assignEach xs env).length = xs.length ∧ (assignEach xs env).findIdx? (·.1) = none
  | .nil, [], _, _ => ⟨rfl, rfl⟩
  | .nil, _ :: _, _, h => by simp [chkTgs] at h
  | .cons _ _, [], _, h => by simp [chkTgs] at h
  | .cons t r, y :: ys, env, h => by
    simp only [chkTgs, Bool.and_eq_true] at h
    obtain ⟨h1, h2⟩ := chkTgs_flags env h.2
    rw [chkTg_nostar h.1]
    refine ⟨by simp [h1], ?_⟩
    rw [List.findIdx?_cons]
    simp [h2]
omit hK in
theorem asgDs_len {M : Mach} : ∀ {ts : Tgs} {ds : List D} {xs : List Expr} {env env' : En} {C : Ck}, chkTgs C ts xs = true → asgDs M ts ds env = some env' → ds.length = xs.length
  | .nil, [], [], _, _, _, _, _ => rfl
  | .nil, [], _ :: _, _, _, _, h, _ => by simp [chkTgs] at h
  | .nil, _ :: _, _, _, _, _, _, h => by simp [asgDs] at h
  | .cons _ _, [], _, _, _, _, _, h => by simp [asgDs] at h
  | .cons _ _, _ :: _, [], _, _, _, h, _ => by simp [chkTgs] at h
  | .cons t r, d :: ds, y :: ys, env, env', C, h, e => by
    simp only [chkTgs, Bool.and_eq_true] at h
    obtain ⟨e1, _, h2⟩ := Option.bind_eq_some_iff.mp (show ((asgD M t d env).bind fun e1 => asgDs M r ds e1) = some env' from e)
    simp [asgDs_len h.2 h2]
mutual
theorem ok_tg {C : Ck} (hN : X.N = C.N) (hnd : X.N.Nodup) (hsc : X.env.scope = C.sc) (hfn : ∀ x, C.fn x = true → X.fn x = true) (hcm : X.calm = true) : ∀ {t : Tg} {x : Expr}, chkTg C t x = true → PG X x (rdG S t)
  | .nm i, x, h => by
    cases x with
    | Name y pos =>
      simp only [chkTg, chkSt, chkN, Bool.and_eq_true, Bool.or_eq_true, decide_eq_true_eq] at h
      obtain ⟨⟨h1, h2⟩, h3⟩ := h
      have hx : Loc X.env.scope y := by
        unfold locB at h2
        rw [hsc]
        split at h2 <;> first | exact .inl (by assumption) | exact .inr (by assumption) | cases h2
      have hf : X.fn y = true ∨ X.env.scope.names.lookup y = some .local := by
        rcases h3 with h3 | h3
        · exact .inl (hfn y h3)
        · rw [hsc]
          split at h3 <;> first | exact .inr (by assumption) | cases h3
      refine (pg_name hnd (by rw [hN]; exact h1) hx hf).imp fun v σ H Q h => ?_
      obtain ⟨Z, env, fp, d, env', rel, hd, e, q⟩ := h
      obtain ⟨r2, c2⟩ := store_ok' hK rel (show store S.M env i (.dat d) = some env' from e) (v := v) (f := []) ⟨hd, rfl⟩ (by simp)
      refine q _ _ r2 (fun a ha => ?_) c2
      obtain ⟨j, hj⟩ := ha
      change a ∈ (if j = i then [] else fp j) at hj
      split at hj
      · simp at hj
      · exact ⟨j, hj⟩
    | _ => simp [chkTg] at h
  | .tp ts, x, h => by
    cases x with
    | Tuple es k pos =>
      have h : chkTgs C ts es = true := by simpa [chkTg] using h
      have hg := ok_tgs hN hnd hsc hfn hcm h
      obtain ⟨f1, f2⟩ := chkTgs_flags X.env h
      refine (pg_tup (n := es.length) hcm hg f1 f2).imp fun v σ H Q h2 => ?_
      obtain ⟨Z, env, fp, d, env', rel, hd, e, q⟩ := h2
      cases d with
      | tuple ds =>
        have e : asgDs S.M ts ds env = some env' := by simpa [asgD] using e
        obtain ⟨p, xs, rfl, ra, hp⟩ := rp_seqT hd
        exact ⟨p, xs, rfl, by rw [← hK]; exact hp _ _ .refl, by rw [ra.length]; exact asgDs_len h e, Z, env, fp, ds, env', rel, ra, e, q⟩
      | _ => simp [asgD] at e
    | _ => simp [chkTg] at h
theorem ok_tgs {C : Ck} (hN : X.N = C.N) (hnd : X.N.Nodup) (hsc : X.env.scope = C.sc) (hfn : ∀ x, C.fn x = true → X.fn x = true) (hcm : X.calm = true) : ∀ {ts : Tgs} {xs : List Expr}, chkTgs C ts xs = true → PGs X xs (rdGs S ts)
  | .nil, [], _ => pgs_nil.imp fun v σ H Q h => by
    obtain ⟨Z, env, fp, ds, env', rel, hd, e, q⟩ := h
    cases hd with
    | nil =>
      have e : some env = some env' := e
      cases e
      exact ⟨rfl, q σ fp rel (fun _ h => h) .refl⟩
    | cons _ _ => simp [asgDs] at e
  | .nil, _ :: _, h => by simp [chkTgs] at h
  | .cons _ _, [], h => by simp [chkTgs] at h
  | .cons t r, y :: ys, h => by
    simp only [chkTgs, Bool.and_eq_true] at h
    have ha := ok_tg hN hnd hsc hfn hcm h.1
    have hb := ok_tgs hN hnd hsc hfn hcm h.2
    refine (pgs_cons ha hb (by rw [chkTg_nostar h.1]; rfl)).imp fun v σ H Q h2 => ?_
    obtain ⟨Z, env, fp, ds, env', rel, hd, e, q⟩ := h2
    cases hd with
    | nil => simp [asgDs] at e
    | cons r1 r2 =>
      rename_i v1 vs d ds
      obtain ⟨e1, h1, h2⟩ := Option.bind_eq_some_iff.mp (show ((asgD S.M t d env).bind fun e1 => asgDs S.M r ds e1) = some env' from e)
      refine ⟨v1, vs, rfl, Z, env, fp, d, e1, rel, r1, h1, fun σ1 fp1 rel1 o1 c1 => ?_⟩
      refine ⟨Z, e1, fp1, ds, env', rel1, r2, h2, fun σ2 fp2 rel2 o2 c2 => ?_⟩
      exact q σ2 fp2 rel2 (fun a h => o1 a (o2 a h)) (c1.trans c2 (fun i h => by simp [tgss, h]) fun i h => by simp [tgss, h])
end
end
end Rf
end

-- text RfH
section
set_option Elab.async false
set_option linter.all false
set_option maxRecDepth 100000
set_option maxHeartbeats 1000000
/-! RfH: comprehensions. -/
namespace Rf
open PySem PySem.Spec PyProof.Rows L2

theorem wipeE_length (env : En) : ∀ vs : List Nat, (wipeE env vs).length = env.length
  | [] => rfl
  | v :: vs => by unfold wipeE; rw [List.length_set, wipeE_length env vs]
theorem slot_set_none {env : En} {i k : Nat} : slot (env.set i none) k = if i = k then none else slot env k := by
  by_cases hi : i < env.length
  · exact slot_set hi
  · rw [List.set_eq_of_length_le (by omega)]
    by_cases e : i = k
    · subst e
      rw [if_pos rfl]
      cases q : slot env i with
      | none => rfl
      | some s => exact absurd (slot_lt q) hi
    · rw [if_neg e]
theorem slot_wipeE {env : En} {k : Nat} : ∀ {vs : List Nat}, slot (wipeE env vs) k = if k ∈ vs then none else slot env k
  | [] => by simp [wipeE]
  | v :: vs => by
    unfold wipeE
    rw [slot_set_none, slot_wipeE]
    by_cases e : v = k
    · subst e; simp
    · rw [if_neg e]
      by_cases h : k ∈ vs
      · simp [h]
      · simp [h, Ne.symm e]
theorem backE_length (env env0 : En) : ∀ vs : List Nat, (backE env env0 vs).length = env.length
  | [] => rfl
  | v :: vs => by unfold backE; rw [List.length_set, backE_length env env0 vs]
theorem slot_backE {env env0 : En} {k : Nat} (hl : env.length = env0.length) : ∀ {vs : List Nat}, slot (backE env env0 vs) k = if k ∈ vs then slot env0 k else slot env k
  | [] => by simp [backE]
  | v :: vs => by
    unfold backE
    have ih := slot_backE (k := k) hl (vs := vs)
    by_cases hv : v < env.length
    · rw [slot_set (by rw [backE_length]; exact hv)]
      by_cases e : v = k
      · subst e
        rw [if_pos rfl, if_pos (by simp)]
        rw [slot_eq]
        cases env0[v]? with
        | none => rfl
        | some x => cases x <;> rfl
      · rw [if_neg e, ih]
        by_cases h : k ∈ vs
        · simp [h]
        · simp [h, Ne.symm e]
    · rw [List.set_eq_of_length_le (by rw [backE_length]; omega), ih]
      by_cases e : v = k
      · subst e
        have h0 : slot env0 v = none := by
          cases q : slot env0 v with
          | none => rfl
          | some s => exact absurd (slot_lt q) (by omega)
        have h1 : slot env v = none := by
          cases q : slot env v with
          | none => rfl
          | some s => exact absurd (slot_lt q) (by omega)
        simp [h0, h1]
      · by_cases h : k ∈ vs
        · simp [h]
        · simp [h, Ne.symm e]
section
variable {K : PySem.W.Frag} {H : Hp} {Z : Addr → Prop} {env : En} {σ : L2.St} {fp : Nat → List Addr}
def fpW (fp : Nat → List Addr) (own : List Nat) : Nat → List Addr := fun j => if j ∈ own then [] else fp j
theorem fpW_ow {own : List Nat} {a : Addr} (h : Ow (fpW fp own) a) : ∃ j, j ∉ own ∧ a ∈ fp j := by
  obtain ⟨j, hj⟩ := h
  unfold fpW at hj
  split at hj
  · simp at hj
  · exact ⟨j, by assumption, hj⟩
theorem Rel.wipe (rel : Rel K H Z env σ fp) (own : List Nat) : Rel K H Z (wipeE env own) (L2.wipe σ own) (fpW fp own) where
  at_ := fun i s hs => by
    rw [slot_wipeE] at hs
    split at hs
    · cases hs
    · rename_i hi
      obtain ⟨v, h1, h2⟩ := rel.at_ i s hs
      exact ⟨v, by rw [wipe_out hi]; exact h1, by unfold fpW; rw [if_neg hi]; exact h2⟩
  no_ := fun i hs => by
    rw [slot_wipeE] at hs
    unfold fpW
    split at hs
    · rename_i hi
      rw [if_pos hi]
    · rename_i hi
      rw [if_neg hi]
      exact rel.no_ i hs
  dj := fun i j a h1 h2 => by
    unfold fpW at h1 h2
    split at h1
    · simp at h1
    · split at h2
      · simp at h2
      · exact rel.dj i j a h1 h2
  len := by rw [wipeE_length, wipe_length]; exact rel.len
  zs := rel.zs
theorem Rel.other {a : Addr} {o : HO} (rel : Rel K H Z env σ fp) (nz : ¬ Z a) (no : ¬ Ow fp a) : Rel K (upd H a o) Z env σ fp := by
  have st : Step H Z (fun x => x = a) (upd H a o) Z (fun x => x = a) := ⟨fun _ h => h, fun x u e n => ⟨by rw [upd_ne n]; exact e, fun z => z⟩, fun _ h => .inl h⟩
  exact rel.step st rel.zs.upd (fun x z e => nz (e ▸ z)) fun x hx e => no (e ▸ hx)
end
theorem store_kp {M : Mach} {env env' : En} {i : Nat} {s : Sv} (h : store M env i s = some env') : Kp env env' := by
  unfold store at h
  split at h
  · cases h
  · split at h
    · cases h; exact .set
    · cases h
mutual
theorem asgD_kp' {M : Mach} : ∀ {t : Tg} {d : D} {env env' : En}, asgD M t d env = some env' → Kp env env'
  | .nm i, d, env, env', h => store_kp (show store M env i (.dat d) = some env' from h)
  | .tp ts, d, env, env', h => by
    cases d with
    | tuple xs => exact asgDs_kp (ts := ts) (ds := xs) (by simpa [asgD] using h)
    | _ => simp [asgD] at h
theorem asgDs_kp {M : Mach} : ∀ {ts : Tgs} {ds : List D} {env env' : En}, asgDs M ts ds env = some env' → Kp env env'
  | .nil, [], env, env', h => by
    have h : some env = some env' := h
    cases h; exact .refl
  | .nil, _ :: _, _, _, h => by simp [asgDs] at h
  | .cons _ _, [], _, _, h => by simp [asgDs] at h
  | .cons t r, d :: ds, env, env', h => by
    obtain ⟨e1, h1, h2⟩ := Option.bind_eq_some_iff.mp (show ((asgD M t d env).bind fun e1 => asgDs M r ds e1) = some env' from h)
    exact (asgD_kp' h1).trans (asgDs_kp h2)
end
theorem RvR.owned {K : PySem.W.Frag} {H1 : Hp} {Z1 : Addr → Prop} {e1 : En} {σ : L2.St} {r : Rv} {v : V} {fr : List Addr} (q : RvR K H1 Z1 e1 σ r v fr) : ∀ a ∈ fr, ¬ Z1 a ∧ H1 a ≠ none := fun a ha => by
  cases r with
  | dat _ => rw [q.2] at ha; simp at ha
  | tl ds => exact SvR.owned (s := .lst ds) q a ha
  | td kvs => exact SvR.owned (s := .dct kvs) q a ha
  | tt kvs => exact SvR.owned (s := .dtt kvs) q a ha
  | plc _ => rw [q.2.2] at ha; simp at ha
theorem loopC_noexc {f : D → En → R (Option D × En)} : ∀ {xs acc : List D} {env : En} {c : Nat} {p : Option D} {e : En}, loopC f xs acc env ≠ .exc c p e
  | [], _, _, _, _, _ => fun h => nomatch h
  | x :: xs, acc, env, c, p, e => fun h => by
    unfold loopC at h
    cases q : f x env with
    | ok y =>
      rw [q] at h
      obtain ⟨o, e1⟩ := y
      cases o with
      | some d =>
        simp only [R.lc_ok] at h
        split at h
        · exact loopC_noexc h
        · cases h
      | none => exact loopC_noexc h
    | exc => rw [q] at h; cases h
    | no => rw [q] at h; cases h
def compF (M : Mach) (e : E) (t : Tg) (c : Ot) (own : List Nat) : D → En → R (Option D × En) := fun x env => (R.opt (asgD M t x (wipeE env own))).bind fun e2 => (evOt M c e2).bind fun (k, e3) =>
  if k then (evE M e e3).bind fun (r, e4) => (R.opt (frz e4 r)).bind fun (d, e5) => .ok (some d, e5) else .ok (none, e3)
theorem evE_cpr {M : Mach} {e : E} {t : Tg} {it : Itr} {c : Ot} {own : List Nat} {env : En} : evE M (.cpr e t it c own) env = (evI M it env).bind fun (xs, e1) => (loopC (compF M e t c own) xs [] (wipeE e1 own)).bind fun (acc, e6) => .ok (.tl acc, backE e6 e1 own) := by
  rw [evE]; rfl
theorem loopA_noexc {f : D → List D → En → R (List D × En)} : ∀ {xs acc : List D} {env : En} {c : Nat} {p : Option D} {e : En}, loopA f xs acc env ≠ .exc c p e
  | [], _, _, _, _, _ => fun h => nomatch h
  | x :: xs, acc, env, c, p, e => fun h => by
    unfold loopA at h
    cases q : f x acc env with
    | ok y => rw [q] at h; exact loopA_noexc h
    | exc => rw [q] at h; cases h
    | no => rw [q] at h; cases h
def compG (M : Mach) (e : E) (t : Tg) (c : Ot) (t1 : Tg) (it1 : Itr) (c1 : Ot) (own own1 : List Nat) : D → List D → En → R (List D × En) := fun x acc env => (R.opt (asgD M t x (wipeE env own))).bind fun e2 => (evOt M c e2).bind fun (k, e3) =>
  if k then (evI M it1 e3).bind fun (ys, e4) => loopC (compF M e t1 c1 own1) ys acc (wipeE e4 own1) else .ok (acc, e3)
theorem evE_cp2 {M : Mach} {e : E} {t : Tg} {it : Itr} {c : Ot} {t1 : Tg} {it1 : Itr} {c1 : Ot} {own own1 : List Nat} {env : En} : evE M (.cp2 e t it c t1 it1 c1 own own1) env = (evI M it env).bind fun (xs, e1) => (loopA (compG M e t c t1 it1 c1 own own1) xs [] (wipeE e1 own)).bind fun (acc, e6) => .ok (.tl acc, backE e6 e1 own) := by
  rw [evE]; rfl
theorem _root_.L2.PTs.imp {X : Cx} {x : List Expr} {t t' : TT} (h : PTs X x t) (i : ∀ σ H Q, t' σ H Q → t σ H Q) : PTs X x t' := ⟨fun pins s σ H Q I q => h.run pins s σ H Q I (i σ H Q q)⟩

section
variable {X : Cx} {S : Sx} (hK : S.K = X.K)
include hK
theorem ok_Ot_no : PTs X [] (rdOt S .no) := pts_nil.imp fun σ H Q h => by
  obtain ⟨Z, env, fp, rel, h⟩ := h
  unfold evOt at h
  exact h.now rel .refl rel.zs (fr := []) (by simp) ⟨rfl, rfl⟩
theorem ok_Ot_yes {t : T} {y : Expr} (h : PT X y (rdT S t)) : PTs X [y] (rdOt S (.yes t)) := (pts_one h).imp fun σ H Q h => by
  obtain ⟨Z, env, fp, rel, h⟩ := h
  unfold evOt at h
  exact ⟨Z, env, fp, rel, h⟩
/-- the state between two turns of a comprehension -/
structure LcP (S : Sx) (own : List Nat) (σ : L2.St) (H1 : Hp) (Z1 B : Addr → Prop) (e1 : En) (A : Addr) (H : Hp) (Z : Addr → Prop) (env : En) (fp : Nat → List Addr) (acc : List V) (accD : List D) : Prop where
  st : Step H1 Z1 B H Z (Owr fp [A])
  kp : Kp (wipeE e1 own) (wipeE env own)
  rel : Rel S.K H Z (wipeE env own) (L2.wipe σ own) fp
  hD : H A = some (.lst acc)
  ra : RpAll S.K H Z acc accD
  nz : ¬ Z A
  no : ¬ Ow fp A
/-- amid a turn -/
structure LcM (S : Sx) (own : List Nat) (H1 : Hp) (Z1 B : Addr → Prop) (e1 : En) (A : Addr) (σ2 : L2.St) (H : Hp) (Z : Addr → Prop) (env : En) (fp : Nat → List Addr) (acc : List V) (accD : List D) : Prop where
  st : Step H1 Z1 B H Z (Owr fp [A])
  kp : Kp (wipeE e1 own) (wipeE env own)
  rel : Rel S.K H Z env σ2 fp
  hD : H A = some (.lst acc)
  ra : RpAll S.K H Z acc accD
  nz : ¬ Z A
  no : ¬ Ow fp A
omit hK in
theorem LcM.wipe {own : List Nat} {σ σ2 : L2.St} {H1 H : Hp} {Z1 B Z : Addr → Prop} {e1 env : En} {A : Addr} {fp : Nat → List Addr} {acc : List V} {accD : List D} (ew : L2.wipe σ2 own = L2.wipe σ own) (m : LcM S own H1 Z1 B e1 A σ2 H Z env fp acc accD) :
    LcP S own σ H1 Z1 B e1 A H Z env (fpW fp own) acc accD where
  st := m.st.weak (fun _ h => h) fun x o => o.elim (fun o => by obtain ⟨j, _, hj⟩ := fpW_ow o; exact .inl (.inl ⟨j, hj⟩)) fun o => .inl (.inr o)
  kp := m.kp
  rel := by
    have := m.rel.wipe own
    rw [ew] at this
    exact this
  hD := m.hD
  ra := m.ra
  nz := m.nz
  no := fun o => by
    obtain ⟨j, _, hj⟩ := fpW_ow o
    exact m.no ⟨j, hj⟩
omit hK in
theorem Kp.wipe {e0 e1 : En} {own : List Nat} (k : Kp e0 e1) : Kp (wipeE e0 own) (wipeE e1 own) := ⟨by rw [wipeE_length, wipeE_length]; exact k.1, fun i hi => by
  rw [slot_wipeE] at hi ⊢
  split at hi
  · cases hi
  · rename_i hn; rw [if_neg hn]; exact k.2 i hi⟩
omit hK in
theorem wipeE_in {env : En} {own own1 : List Nat} (h : ∀ i ∈ own1, i ∈ own) (k : Nat) : slot (wipeE (wipeE env own1) own) k = slot (wipeE env own) k := by
  rw [slot_wipeE, slot_wipeE, slot_wipeE]
  by_cases hk : k ∈ own
  · rw [if_pos hk, if_pos hk]
  · rw [if_neg hk, if_neg hk, if_neg fun m => hk (h k m)]
/-- the target and the test of a turn -/
theorem lc_tgt {t : Tg} {c : Ot} {own : List Nat} {S' : Sx} (hS : S'.K = S.K) (hM : S'.M = S.M) (hown : ∀ i ∈ tgs t, i ∈ own) {σ : L2.St} {H1 H H' : Hp} {Z1 B Z Z' : Addr → Prop} {e1 env e2 e3 : En} {A : Addr} {fp : Nat → List Addr} {acc : List V} {accD : List D} {d : D} {x : V} {k : Bool}
    (P : LcP S own σ H1 Z1 B e1 A H Z env fp acc accD) (g : Grow H Z H' Z') (zk : Zok H' Z') (hr : Rp S.K H' Z' x d) (he2 : asgD S.M t d (wipeE env own) = some e2) (q3 : evOt S.M c e2 = .ok (k, e3)) {F : L2.St → Hp → Prop} {Nx : Hp → Prop}
    (cont : ∀ σ2 H3 Z3 fp3, L2.wipe σ2 own = L2.wipe σ own → LcM S own H1 Z1 B e1 A σ2 H3 Z3 e3 fp3 acc accD → if k = true then F σ2 H3 else Nx H3) :
    rdG S' t x (L2.wipe σ own) H' fun σ2 H2 => L2.wipe σ2 own = L2.wipe σ own ∧ rdOt S' c σ2 H2 fun b H3 => if b = true then F σ2 H3 else Nx H3 := by
  refine ⟨Z', wipeE env own, fp, d, e2, by rw [hS]; exact P.rel.grow g zk, by rw [hS]; exact hr, by rw [hM]; exact he2, fun σ2 fp2 rel2 o2 c2 => ?_⟩
  rw [hS] at rel2
  have ew : L2.wipe σ2 own = L2.wipe σ own := by
    have e1 : L2.wipe σ2 own = L2.wipe (L2.wipe σ own) own := wipe_eq c2.len fun i hi => c2.off i fun m => hi (hown i m)
    have e2 : L2.wipe (L2.wipe σ own) own = L2.wipe σ own := wipe_eq (wipe_length _ _) fun i hi => wipe_out hi
    rw [e1, e2]
  refine ⟨ew, ?_⟩
  have kp2 : Kp (wipeE env own) e2 := ⟨by rw [rel2.len, c2.len, ← P.rel.len], fun k hk => ?_⟩
  rotate_left
  · exact (asgD_kp' he2).2 k hk
  have sA : Step H1 Z1 B H' Z' (Owr fp2 [A]) := P.st.trans (g.step.weak (fun _ h => h) fun x o => .inl (o.elim (fun o => .inl (o2 x o)) fun o => .inr o))
  have hD' : H' A = some (.lst acc) := (g.keep A _ P.hD).1
  have nz' : ¬ Z' A := fun z => P.nz ((g.keep A _ P.hD).2 z)
  have no' : ¬ Ow fp2 A := fun o => P.no (o2 A o)
  have ra' := P.ra.grow g
  refine ⟨Z', e2, fp2, by rw [hS]; exact rel2, ?_⟩
  rw [hM, q3]
  intro b H3 Z3 fp3 fr3 st3 kp3 rel3 t3 ap3
  obtain ⟨rfl, rfl⟩ := t3
  rw [hS] at rel3
  have st3' : Step H' Z' (Ow fp2) H3 Z3 (Owr fp3 []) := st3.weak (fun _ h => h.elim (fun h => h) fun h => by simp at h) fun _ h => .inl h
  have sB : Step H1 Z1 B H3 Z3 (Owr fp3 [A]) := sA.trans (by simpa using st3'.more (fx := [A]))
  have kD3 := st3'.keep A _ hD' no'
  have nz3 : ¬ Z3 A := fun z => nz' (kD3.2 z)
  have no3 : ¬ Ow fp3 A := fun o => (st3'.new A (.inl o)).elim no' fun e => by rw [hD'] at e; cases e
  refine cont σ2 H3 Z3 fp3 ew ⟨sB, ?_, rel3, kD3.1, ra'.step st3' rel2.zo, nz3, no3⟩
  refine P.kp.trans ⟨by rw [wipeE_length, kp3.1, kp2.1], fun k hk => ?_⟩
  have h2 := kp3.2 k (kp2.2 k hk)
  rw [slot_wipeE] at hk ⊢
  split at hk
  · cases hk
  · rename_i hn; rw [if_neg hn]; exact h2
/-- the element of a turn -/
theorem lc_elt {e : E} {own : List Nat} {S' : Sx} (hS : S'.K = S.K) (hM : S'.M = S.M) {σ2 : L2.St} {H1 H3 : Hp} {Z1 B Z3 : Addr → Prop} {e1 e3 e4 e5 : En} {A : Addr} {fp3 : Nat → List Addr} {acc : List V} {accD : List D} {r : Rv} {d5 : D}
    (m : LcM S own H1 Z1 B e1 A σ2 H3 Z3 e3 fp3 acc accD) (q4 : evE S.M e e3 = .ok (r, e4)) (q5 : frz e4 r = some (d5, e5)) (hsz : sizeOk (accD.length + 1) = true) {Nx : Hp → Prop}
    (cont : ∀ H5 Z5 fp5 acc5, LcM S own H1 Z1 B e1 A σ2 H5 Z5 e5 fp5 acc5 (accD ++ [d5]) → Nx H5) :
    rdE S' e σ2 H3 fun y H4 => ∃ acc, H4 A = some (.lst acc) ∧ acc.length < sizeLine ∧ Nx (upd H4 A (.lst (acc ++ [y]))) := by
  refine ⟨Z3, e3, fp3, by rw [hS]; exact m.rel, ?_⟩
  rw [hM, q4]
  intro y H4 Z4 fp4 fr4 st4 kp4 rel4 t4 ap4
  rw [hS] at rel4
  have t4 : RvR S.K H4 Z4 e4 σ2 r y fr4 := by have := t4; unfold tE at this; rw [hS] at this; exact this
  obtain ⟨Z5, fp5, st5, kp5, rel5, hr5⟩ := frz_ok t4 rel4 ap4 q5
  have st4' : Step H3 Z3 (Ow fp3) H4 Z4 (Owr fp4 fr4) := st4.weak (fun _ h => h.elim (fun h => h) fun h => by simp at h) fun _ h => .inl h
  have kD4 := st4'.keep A _ m.hD m.no
  have nA4 : ¬ Owr fp4 fr4 A := fun o => (st4'.new A o).elim m.no fun e => by rw [m.hD] at e; cases e
  have kD5 := st5.keep A _ kD4.1 nA4
  have nz5 : ¬ Z5 A := fun z => m.nz (kD4.2 (kD5.2 z))
  have no5 : ¬ Ow fp5 A := fun o => (st5.new A o).elim nA4 fun e => by rw [kD4.1] at e; cases e
  have hz4 : ∀ a, Z4 a → ¬ Owr fp4 fr4 a := fun a z o => o.elim (rel4.zo a z) fun o => (RvR.owned t4 a o).1 z
  have ra4 := (m.ra.step st4' m.rel.zo).step st5 hz4
  refine ⟨acc, kD4.1, ?_, cont _ Z5 fp5 (acc ++ [y]) ⟨?_, ?_, rel5.other (o := .lst (acc ++ [y])) nz5 no5, upd_same, ?_, nz5, no5⟩⟩
  · have := sizeOk_le hsz
    rw [← ra4.length] at this
    exact this
  · have s4 : Step H1 Z1 B H4 Z4 (Owr fp4 ([A] ++ fr4)) := m.st.trans st4'.more
    have s5 : Step H4 Z4 (Owr fp4 ([A] ++ fr4)) H4 Z5 (Owr fp5 [A]) := st5.weak (fun x o => o.elim .inl fun o => .inr (List.mem_append_right _ o)) fun x o => o.elim (fun o => .inl o) fun o => .inr (.inl (.inr (List.mem_append_left _ o)))
    have s6 : Step H4 Z5 (Owr fp5 [A]) (upd H4 A (.lst (acc ++ [y]))) Z5 (Owr fp5 [A]) := ⟨fun _ h => h, fun x o e n => ⟨by rw [upd_ne fun q => n (.inr (by simp [q]))]; exact e, fun z => z⟩, fun _ h => .inl h⟩
    exact s4.trans (s5.trans s6)
  · exact m.kp.trans (kp4.trans kp5).wipe
  · exact (ra4.snoc hr5).mono (fun _ h => h) fun a o z e => by rw [upd_ne fun q => nz5 (by rw [← q]; exact z)]; exact e
/-- the whole turn, one clause -/
theorem lc_turn {e : E} {t : Tg} {c : Ot} {own : List Nat} {S' : Sx} (hS : S'.K = S.K) (hM : S'.M = S.M) (hown : ∀ i ∈ tgs t, i ∈ own) {σ : L2.St} {H1 H H' : Hp} {Z1 B Z Z' : Addr → Prop} {e1 env e6 : En} {A : Addr} {fp : Nat → List Addr} {acc : List V} {accD acc6 xs : List D} {i : Nat} {d : D} {x : V}
    (P : LcP S own σ H1 Z1 B e1 A H Z env fp acc accD) (g : Grow H Z H' Z') (zk : Zok H' Z') (hr : Rp S.K H' Z' x d) (hd : xs[i]? = some d) (lp : loopC (compF S.M e t c own) (xs.drop i) accD env = .ok (acc6, e6)) {Nx : Hp → Prop}
    (nx : ∀ H Z env fp acc accD, LcP S own σ H1 Z1 B e1 A H Z env fp acc accD → loopC (compF S.M e t c own) (xs.drop (i + 1)) accD env = .ok (acc6, e6) → Nx H) :
    rdG S' t x (L2.wipe σ own) H' fun σ2 H2 => L2.wipe σ2 own = L2.wipe σ own ∧ rdOt S' c σ2 H2 fun b H3 => if b = true then rdE S' e σ2 H3 fun y H4 => ∃ acc, H4 A = some (.lst acc) ∧ acc.length < sizeLine ∧ Nx (upd H4 A (.lst (acc ++ [y]))) else Nx H3 := by
  have hdrop : xs.drop i = d :: xs.drop (i + 1) := by
    obtain ⟨hlt, he⟩ := List.getElem?_eq_some_iff.mp hd
    rw [List.drop_eq_getElem_cons hlt, he]
  rw [hdrop] at lp
  unfold loopC at lp
  cases he2 : asgD S.M t d (wipeE env own) with
  | none =>
    unfold compF at lp
    rw [he2] at lp
    cases lp
  | some e2 =>
  have hf0 : compF S.M e t c own d env = (evOt S.M c e2).bind fun (k, e3) => if k then (evE S.M e e3).bind fun (r, e4) => (R.opt (frz e4 r)).bind fun (d, e5) => .ok (some d, e5) else .ok (none, e3) := by
    unfold compF; rw [he2]; rfl
  rw [hf0] at lp
  cases q3 : evOt S.M c e2 with
  | no => rw [q3] at lp; cases lp
  | exc => rw [q3] at lp; cases lp
  | ok x3 =>
  obtain ⟨k, e3⟩ := x3
  rw [q3] at lp
  dsimp only [R.bind_ok] at lp
  refine lc_tgt hK hS hM hown P g zk hr he2 q3 fun σ2 H3 Z3 fp3 ew m => ?_
  cases k with
  | false =>
    rw [if_neg Bool.false_ne_true]
    simp only [Bool.false_eq_true, if_false] at lp
    exact nx _ _ _ _ _ _ (m.wipe ew) lp
  | true =>
    rw [if_pos rfl]
    simp only [if_true] at lp
    cases q4 : evE S.M e e3 with
    | no => rw [q4] at lp; cases lp
    | exc => rw [q4] at lp; cases lp
    | ok x4 =>
    obtain ⟨r, e4⟩ := x4
    rw [q4] at lp
    dsimp only [R.bind_ok] at lp
    cases q5 : frz e4 r with
    | none => rw [q5] at lp; cases lp
    | some x5 =>
    obtain ⟨d5, e5⟩ := x5
    rw [q5] at lp
    simp only [R.opt_some, R.bind_ok, R.lc_ok] at lp
    split at lp
    · rename_i hsz
      exact lc_elt hK hS hM m q4 q5 hsz fun H5 Z5 fp5 acc5 m5 => nx _ _ _ _ _ _ (m5.wipe ew) lp
    · cases lp
/-- the end of a comprehension -/
theorem lc_end {own : List Nat} {σ : L2.St} {H1 : Hp} {Z1 : Addr → Prop} {e1 e6 : En} {fp1 : Nat → List Addr} {A : Addr} {acc6 : List D} {Q : VK} {H : Hp} {Z : Addr → Prop} {fp : Nat → List Addr} {acc : List V} (rel1 : Rel S.K H1 Z1 e1 σ fp1) (nA : H1 A = none)
    (h : Po S σ H1 Z1 e1 fp1 ([] ++ []) (tE S σ) Q (.ok (.tl acc6, backE e6 e1 own))) (P : LcP S own σ H1 Z1 (Ow (fpW fp1 own)) e1 A H Z e6 fp acc acc6) : Q (.ref A) H := by
  have zoW : ∀ a, Z1 a → ¬ Ow (fpW fp1 own) a := fun a z o => by
    obtain ⟨j, _, hj⟩ := fpW_ow o
    exact rel1.zo a z ⟨j, hj⟩
  have hl : e6.length = e1.length := by have := P.kp.1; rw [wipeE_length, wipeE_length] at this; exact this
  refine h (.ref A) H Z (fun j => if j ∈ own then fp1 j else fp j) [A] (P.st.weak (fun x o => by obtain ⟨j, _, hj⟩ := fpW_ow o; exact .inl ⟨j, hj⟩) fun x o => ?_) ⟨by rw [backE_length]; exact hl, fun k hk => ?_⟩ ⟨fun k s hs => ?_, fun k hk => ?_, fun j k a h1 h2 => ?_, by rw [backE_length, hl]; exact rel1.len, P.rel.zs⟩ ⟨A, acc, rfl, rfl, P.hD, P.ra, P.nz⟩ fun x hx o => ?_
  · rcases o with ⟨j, hj⟩ | o
    · change x ∈ (if j ∈ own then fp1 j else fp j) at hj
      split at hj
      · exact .inr (.inl (.inl ⟨j, hj⟩))
      · exact .inl (.inl ⟨j, hj⟩)
    · exact .inl (.inr o)
  · rw [slot_backE hl]
    by_cases hm : k ∈ own
    · rw [if_pos hm]; exact hk
    · rw [if_neg hm]
      have h2 := P.kp.2 k (by rw [slot_wipeE, if_neg hm]; exact hk)
      rw [slot_wipeE, if_neg hm] at h2
      exact h2
  · rw [slot_backE hl] at hs
    by_cases hm : k ∈ own
    · rw [if_pos hm] at hs
      obtain ⟨v, g1, g2⟩ := rel1.at_ k s hs
      refine ⟨v, g1, ?_⟩
      show SvR _ _ _ _ _ (if k ∈ own then fp1 k else fp k)
      rw [if_pos hm]
      refine g2.step P.st zoW fun a ha o => ?_
      obtain ⟨j, hj, hj2⟩ := fpW_ow o
      exact hj (rel1.dj k j a ha hj2 ▸ hm)
    · rw [if_neg hm] at hs
      obtain ⟨v, g1, g2⟩ := P.rel.at_ k s (by rw [slot_wipeE, if_neg hm]; exact hs)
      rw [wipe_out hm] at g1
      refine ⟨v, g1, ?_⟩
      show SvR _ _ _ _ _ (if k ∈ own then fp1 k else fp k)
      rw [if_neg hm]
      exact g2
  · rw [slot_backE hl] at hk
    show (if k ∈ own then fp1 k else fp k) = []
    by_cases hm : k ∈ own
    · rw [if_pos hm] at hk ⊢
      exact rel1.no_ k hk
    · rw [if_neg hm] at hk ⊢
      exact P.rel.no_ k (by rw [slot_wipeE, if_neg hm]; exact hk)
  · change a ∈ (if j ∈ own then fp1 j else fp j) at h1
    change a ∈ (if k ∈ own then fp1 k else fp k) at h2
    have cross : ∀ {j k : Nat}, j ∈ own → a ∈ fp1 j → a ∈ fp k → False := fun {j k} hj m1 m2 => by
      rcases P.st.new a (.inl ⟨k, m2⟩) with o | o
      · obtain ⟨i, hi, hi2⟩ := fpW_ow o
        exact hi (rel1.dj j i a m1 hi2 ▸ hj)
      · exact (rel1.owned ⟨j, m1⟩).2 o
    split at h1
    · rename_i hj
      split at h2
      · exact rel1.dj j k a h1 h2
      · exact (cross hj h1 h2).elim
    · split at h2
      · rename_i hk
        exact (cross hk h2 h1).elim
      · exact P.rel.dj j k a h1 h2
  · simp at hx
    subst hx
    obtain ⟨j, hj⟩ := o
    change x ∈ (if j ∈ own then fp1 j else fp j) at hj
    split at hj
    · exact (rel1.owned ⟨j, hj⟩).2 nA
    · exact P.no ⟨j, hj⟩
/-- the start of a comprehension -/
theorem lc_start {own : List Nat} {σ : L2.St} {H1 : Hp} {Z1 : Addr → Prop} {e1 : En} {fp1 : Nat → List Addr} {A : Addr} (rel1 : Rel S.K H1 Z1 e1 σ fp1) (nA : H1 A = none) :
    LcP S own σ H1 Z1 (Ow (fpW fp1 own)) e1 A (upd H1 A (.lst [])) Z1 (wipeE e1 own) (fpW fp1 own) [] [] := by
  refine ⟨(Grow.new nA).step.weak (fun _ h => h) fun x o => o.elim (fun o => .inl o) fun o => .inr (.inr (by simp at o; rw [o]; exact nA)), ?_, ?_, upd_same, .nil, fun z => rel1.zs A z nA, fun o => ?_⟩
  · refine ⟨by rw [wipeE_length, wipeE_length], fun i hi => ?_⟩
    rw [slot_wipeE] at hi ⊢
    split at hi
    · cases hi
    · rename_i hn
      rw [if_neg hn, slot_wipeE, if_neg hn]
      exact hi
  · have r0 := (rel1.wipe own).grow (Grow.new (p := A) (o := .lst []) nA) rel1.zs.upd
    have r1 := r0.wipe own
    have ew : L2.wipe (L2.wipe σ own) own = L2.wipe σ own := wipe_eq (wipe_length _ _) fun i hi => wipe_out hi
    have ef : fpW (fpW fp1 own) own = fpW fp1 own := by
      funext j
      unfold fpW
      split <;> rfl
    rw [ew, ef] at r1
    exact r1
  · obtain ⟨j, _, hj⟩ := fpW_ow o
    exact (rel1.owned ⟨j, hj⟩).2 nA
theorem ok_cpr_core {e : E} {t : Tg} {it : Itr} {c : Ot} {own : List Nat} {S' : Sx} (hS : S'.K = S.K) (hM : S'.M = S.M) (hown : ∀ i ∈ tgs t, i ∈ own) {σ : L2.St} {H : Hp} {Q : VK} (h : rdE S (.cpr e t it c own) σ H Q) :
    tLc (rdI S it) (rdG S' t) (rdOt S' c) (rdE S' e) own σ H Q := by
  obtain ⟨Z, env, fp, rel, h⟩ := h
  rw [evE_cpr] at h
  refine ⟨Z, env, fp, rel, Po.seq h fun xs e1 J H1 Z1 fp1 fr1 st1 kp1 rel1 t1 ap1 h => ?_⟩
  intro A nA
  obtain ⟨⟨G, Y, wk, hG, hY⟩, rfl⟩ := t1
  dsimp only at h
  cases q : loopC (compF S.M e t c own) xs [] (wipeE e1 own) with
  | no => rw [q] at h; exact h.elim
  | exc => exact absurd q loopC_noexc
  | ok x6 =>
  obtain ⟨acc6, e6⟩ := x6
  rw [q] at h
  have h : Po S σ H1 Z1 e1 fp1 ([] ++ []) (tE S σ) Q (.ok (.tl acc6, backE e6 e1 own)) := h
  have zoW : ∀ a, Z1 a → ¬ Ow (fpW fp1 own) a := fun a z o => by
    obtain ⟨j, _, hj⟩ := fpW_ow o
    exact rel1.zo a z ⟨j, hj⟩
  refine lc_it wk (fun i H => ∃ Z env fp acc accD, LcP S own σ H1 Z1 (Ow (fpW fp1 own)) e1 A H Z env fp acc accD ∧ loopC (compF S.M e t c own) (xs.drop i) accD env = .ok (acc6, e6)) ?_ ?_ ?_ ?_
  · exact ⟨Z1, wipeE e1 own, fpW fp1 own, [], [], lc_start hK rel1 nA, q⟩
  · rintro i H _ ⟨Z, env, fp, acc, accD, P, _⟩
    exact hG H Z (P.st.pers zoW)
  · rintro i x H H' hi ⟨Z, env, fp, acc, accD, P, lp⟩ hy
    obtain ⟨d, Z', hd, g, zk, hr⟩ := hY i H Z x H' (P.st.pers zoW) P.rel.zs hi hy
    exact lc_turn hK hS hM hown P g zk hr hd lp fun H Z env fp acc accD P lp => ⟨Z, env, fp, acc, accD, P, lp⟩
  · rintro H ⟨Z, env, fp, acc, accD, P, lp⟩
    rw [List.drop_length] at lp
    unfold loopC at lp
    cases lp
    exact lc_end hK rel1 nA h P
omit hK in
/-- an inner loop -/
theorem _root_.L2.in_it {J : It} {n : Nat} {G : Hp → Prop} {Y : Nat → Hp → V → Hp → Prop} (w : Walk J n G Y) {Bd : V → Hp → (Hp → Prop) → Prop} {H4 : Hp} {Nx : Hp → Prop} (Pv : Nat → Hp → Prop) (h0 : Pv 0 H4) (hG : ∀ i H, i ≤ n → Pv i H → G H)
    (hs : ∀ i x H H', i < n → Pv i H → Y i H x H' → Bd x H' (Pv (i + 1))) (hd : ∀ H, Pv n H → Nx H) :
    ∃ W : Nat → Nat → Hp → Prop, (∃ m, W 0 m H4) ∧ ∀ i m H, W i m H →
      (J.stop i H ∧ Nx H) ∨ (J.go i H ∧ ∃ Nx1 : Hp → Prop, (∀ H', Nx1 H' → ∃ m', m' < m ∧ W (i + 1) m' H') ∧ ∀ x H', J.yld i H x H' → Bd x H' Nx1) := by
  refine ⟨fun i m H => m = n - i ∧ i ≤ n ∧ Pv i H, ⟨n, by simp, Nat.zero_le _, h0⟩, ?_⟩
  rintro i m H ⟨rfl, hi, p⟩
  have q := hG i H hi p
  by_cases hlt : i < n
  · refine .inr ⟨w.goes i H hlt q, Pv (i + 1), fun H' p' => ⟨n - (i + 1), by omega, rfl, hlt, p'⟩, fun x H' y => hs i x H H' hlt p (w.yields i H x H' hlt q y)⟩
  · have e : i = n := by omega
    subst e
    exact .inl ⟨w.stops H q, hd H p⟩
theorem ok_cp2_core {e : E} {t t1 : Tg} {it it1 : Itr} {c c1 : Ot} {own own1 : List Nat} {S' : Sx} (hS : S'.K = S.K) (hM : S'.M = S.M) (hown : ∀ i ∈ tgs t, i ∈ own) (hown1 : ∀ i ∈ tgs t1, i ∈ own1) (hin : ∀ i ∈ own1, i ∈ own) {σ : L2.St} {H : Hp} {Q : VK}
    (h : rdE S (.cp2 e t it c t1 it1 c1 own own1) σ H Q) : tLc2 (rdI S it) (rdG S' t) (rdOt S' c) (rdI S' it1) (rdG S' t1) (rdOt S' c1) (rdE S' e) own own1 σ H Q := by
  obtain ⟨Z, env, fp, rel, h⟩ := h
  rw [evE_cp2] at h
  refine ⟨Z, env, fp, rel, Po.seq h fun xs e1 J H1 Z1 fp1 fr1 st1 kp1 rel1 t1_ ap1 h => ?_⟩
  intro A nA
  obtain ⟨⟨G, Y, wk, hG, hY⟩, rfl⟩ := t1_
  dsimp only at h
  cases q : loopA (compG S.M e t c t1 it1 c1 own own1) xs [] (wipeE e1 own) with
  | no => rw [q] at h; exact h.elim
  | exc => exact absurd q loopA_noexc
  | ok x6 =>
  obtain ⟨acc6, e6⟩ := x6
  rw [q] at h
  have h : Po S σ H1 Z1 e1 fp1 ([] ++ []) (tE S σ) Q (.ok (.tl acc6, backE e6 e1 own)) := h
  have zoW : ∀ a, Z1 a → ¬ Ow (fpW fp1 own) a := fun a z o => by
    obtain ⟨j, _, hj⟩ := fpW_ow o
    exact rel1.zo a z ⟨j, hj⟩
  refine in_it wk (Bd := fun x H' Nx => rdG S' t x (L2.wipe σ own) H' fun σ2 H2 => L2.wipe σ2 own = L2.wipe σ own ∧ rdOt S' c σ2 H2 fun b H3 => if b = true then rdI S' it1 σ2 H3 fun J1 H4 => ∃ W1 : Nat → Nat → Hp → Prop, (∃ m, W1 0 m H4) ∧ ∀ j k H, W1 j k H →
      (J1.stop j H ∧ Nx H) ∨ (J1.go j H ∧ ∃ Nx1 : Hp → Prop, (∀ H', Nx1 H' → ∃ k', k' < k ∧ W1 (j + 1) k' H') ∧ ∀ x H', J1.yld j H x H' → rdG S' t1 x (L2.wipe σ2 own1) H' fun σ3 H5 => L2.wipe σ3 own1 = L2.wipe σ2 own1 ∧ rdOt S' c1 σ3 H5 fun b H6 =>
        if b = true then rdE S' e σ3 H6 fun y H7 => ∃ acc, H7 A = some (.lst acc) ∧ acc.length < sizeLine ∧ Nx1 (upd H7 A (.lst (acc ++ [y]))) else Nx1 H6)
    else Nx H3)
    (fun i H => ∃ Z env fp acc accD, LcP S own σ H1 Z1 (Ow (fpW fp1 own)) e1 A H Z env fp acc accD ∧ loopA (compG S.M e t c t1 it1 c1 own own1) (xs.drop i) accD env = .ok (acc6, e6)) ?_ ?_ ?_ ?_
  · exact ⟨Z1, wipeE e1 own, fpW fp1 own, [], [], lc_start hK rel1 nA, q⟩
  · rintro i H _ ⟨Z, env, fp, acc, accD, P, _⟩
    exact hG H Z (P.st.pers zoW)
  · rintro i x H H' hi ⟨Z, env, fp, acc, accD, P, lp⟩ hy
    obtain ⟨d, Z', hd, g, zk, hr⟩ := hY i H Z x H' (P.st.pers zoW) P.rel.zs hi hy
    have hdrop : xs.drop i = d :: xs.drop (i + 1) := by
      obtain ⟨hlt, he⟩ := List.getElem?_eq_some_iff.mp hd
      rw [List.drop_eq_getElem_cons hlt, he]
    rw [hdrop] at lp
    unfold loopA at lp
    cases he2 : asgD S.M t d (wipeE env own) with
    | none =>
      unfold compG at lp
      rw [he2] at lp
      cases lp
    | some e2 =>
    have hf0 : compG S.M e t c t1 it1 c1 own own1 d accD env = (evOt S.M c e2).bind fun (k, e3) => if k then (evI S.M it1 e3).bind fun (ys, e4) => loopC (compF S.M e t1 c1 own1) ys accD (wipeE e4 own1) else .ok (accD, e3) := by
      unfold compG; rw [he2]; rfl
    rw [hf0] at lp
    cases q3 : evOt S.M c e2 with
    | no => rw [q3] at lp; cases lp
    | exc => rw [q3] at lp; cases lp
    | ok x3 =>
    obtain ⟨k, e3⟩ := x3
    rw [q3] at lp
    dsimp only [R.bind_ok] at lp
    refine lc_tgt hK hS hM hown P g zk hr he2 q3 (F := fun σ2 H3 => rdI S' it1 σ2 H3 fun J1 H4 => ∃ W1 : Nat → Nat → Hp → Prop, _) fun σ2 H3 Z3 fp3 ew m => ?_
    cases k with
    | false =>
      rw [if_neg Bool.false_ne_true]
      simp only [Bool.false_eq_true, if_false, R.la_ok] at lp
      exact ⟨_, _, _, _, _, m.wipe ew, lp⟩
    | true =>
      rw [if_pos rfl]
      simp only [if_true] at lp
      cases q4 : evI S.M it1 e3 with
      | no => rw [q4] at lp; cases lp
      | exc => rw [q4] at lp; cases lp
      | ok x4 =>
      obtain ⟨ys, e4⟩ := x4
      rw [q4] at lp
      dsimp only [R.bind_ok] at lp
      cases q7 : loopC (compF S.M e t1 c1 own1) ys accD (wipeE e4 own1) with
      | no => rw [q7] at lp; cases lp
      | exc => exact absurd q7 loopC_noexc
      | ok x7 =>
      obtain ⟨acc7, e7⟩ := x7
      rw [q7] at lp
      dsimp only [R.la_ok] at lp
      refine ⟨Z3, e3, fp3, by rw [hS]; exact m.rel, ?_⟩
      rw [hM, q4]
      intro J1 H4 Z4 fp4 fr4 st4 kp4 rel4 t4 ap4
      rw [hS] at rel4
      obtain ⟨⟨G1, Y1, wk1, hG1, hY1⟩, rfl⟩ := t4
      have st4' : Step H3 Z3 (Ow fp3) H4 Z4 (Owr fp4 []) := st4.weak (fun _ h => h.elim (fun h => h) fun h => by simp at h) fun _ h => .inl h
      have kD4 := st4'.keep A _ m.hD m.no
      have nz4 : ¬ Z4 A := fun z => m.nz (kD4.2 z)
      have no4 : ¬ Ow fp4 A := fun o => (st4'.new A (.inl o)).elim m.no fun e => by rw [m.hD] at e; cases e
      have ra4 := m.ra.step st4' m.rel.zo
      have zo4 : ∀ a, Z4 a → ¬ Owr (fpW fp4 own1) [A] a := fun a z o => o.elim (fun o => by obtain ⟨j, _, hj⟩ := fpW_ow o; exact rel4.zo a z ⟨j, hj⟩) fun o => by simp at o; exact nz4 (o ▸ z)
      have m4 : LcM S own1 H4 Z4 (Owr (fpW fp4 own1) [A]) e4 A σ2 H4 Z4 (wipeE e4 own1) (fpW fp4 own1) acc accD → True := fun _ => trivial
      have ewi : L2.wipe (L2.wipe σ2 own1) own1 = L2.wipe σ2 own1 := wipe_eq (wipe_length _ _) fun i hi => wipe_out hi
      have P0 : LcP S own1 σ2 H4 Z4 (Owr (fpW fp4 own1) [A]) e4 A H4 Z4 (wipeE e4 own1) (fpW fp4 own1) acc accD := by
        refine ⟨⟨fun _ h => h, fun x o e n => ⟨e, fun z => z⟩, fun _ h => .inl h⟩, ⟨by rw [wipeE_length, wipeE_length], fun i hi => by rw [wipeE_in fun _ h => h]; exact hi⟩, ?_, kD4.1, ra4, nz4, fun o => ?_⟩
        · have r1 := (rel4.wipe own1).wipe own1
          have ef : fpW (fpW fp4 own1) own1 = fpW fp4 own1 := by
            funext j
            unfold fpW
            split <;> rfl
          rw [ewi, ef] at r1
          exact r1
        · obtain ⟨j, _, hj⟩ := fpW_ow o
          exact no4 ⟨j, hj⟩
      refine in_it wk1 (Bd := fun x H' Nx1 => rdG S' t1 x (L2.wipe σ2 own1) H' fun σ3 H5 => L2.wipe σ3 own1 = L2.wipe σ2 own1 ∧ rdOt S' c1 σ3 H5 fun b H6 =>
        if b = true then rdE S' e σ3 H6 fun y H7 => ∃ acc, H7 A = some (.lst acc) ∧ acc.length < sizeLine ∧ Nx1 (upd H7 A (.lst (acc ++ [y]))) else Nx1 H6)
        (fun i H => ∃ Z env fp acc accD, LcP S own1 σ2 H4 Z4 (Owr (fpW fp4 own1) [A]) e4 A H Z env fp acc accD ∧ loopC (compF S.M e t1 c1 own1) (ys.drop i) accD env = .ok (acc7, e7)) ?_ ?_ ?_ ?_
      · exact ⟨Z4, _, _, acc, accD, P0, q7⟩
      · rintro i H _ ⟨Z, env, fp, acc, accD, P, _⟩
        exact hG1 H Z (P.st.pers zo4)
      · rintro i x H H' hi ⟨Z, env, fp, acc, accD, P, lp⟩ hy
        obtain ⟨d, Z', hd, g, zk, hr⟩ := hY1 i H Z x H' (P.st.pers zo4) P.rel.zs hi hy
        rw [hS] at hr
        exact lc_turn hK hS hM hown1 P g zk hr hd lp fun H Z env fp acc accD P lp => ⟨Z, env, fp, acc, accD, P, lp⟩
      · rintro H ⟨Z, env, fp, acc', accD', P', lp'⟩
        rw [List.drop_length] at lp'
        unfold loopC at lp'
        cases lp'
        have eo : L2.wipe (L2.wipe σ2 own1) own = L2.wipe σ own := by
          rw [← ew]
          exact wipe_eq (wipe_length _ _) fun i hi => wipe_out fun z => hi (hin i z)
        refine ⟨Z, e7, fpW fp own, acc', acc7, ⟨?_, ?_, ?_, P'.hD, P'.ra, P'.nz, fun o => ?_⟩, lp⟩
        · have s4 : Step H1 Z1 (Ow (fpW fp1 own)) H4 Z4 (Owr fp4 ([A] ++ [])) := m.st.trans st4'.more
          have s5 : Step H4 Z4 (Owr fp4 ([A] ++ [])) H Z (Owr fp [A]) := P'.st.weak (fun x o => o.elim (fun o => by obtain ⟨j, _, hj⟩ := fpW_ow o; exact .inl ⟨j, hj⟩) fun o => .inr (by simpa using o)) fun x o => .inl o
          exact (s4.trans s5).weak (fun _ h => h) fun x o => o.elim (fun o => by obtain ⟨j, _, hj⟩ := fpW_ow o; exact .inl (.inl ⟨j, hj⟩)) fun o => .inl (.inr o)
        · refine (m.kp.trans kp4.wipe).trans ⟨by rw [wipeE_length, wipeE_length]; have := P'.kp.1; rw [wipeE_length, wipeE_length] at this; exact this, fun k hk => ?_⟩
          rw [slot_wipeE] at hk ⊢
          split at hk
          · cases hk
          · rename_i hn
            rw [if_neg hn]
            have h1 : k ∉ own1 := fun z => hn (hin k z)
            have := P'.kp.2 k (by rw [slot_wipeE, if_neg h1]; exact hk)
            rw [slot_wipeE, if_neg h1] at this
            exact this
        · have r := P'.rel.wipe own
          rw [eo] at r
          exact ⟨fun i s hs => r.at_ i s (by rw [wipeE_in hin]; exact hs), fun i hs => r.no_ i (by rw [wipeE_in hin]; exact hs), r.dj, by have := r.len; rw [wipeE_length, wipeE_length] at this; rw [wipeE_length]; exact this, r.zs⟩
        · obtain ⟨j, _, hj⟩ := fpW_ow o
          exact P'.no ⟨j, hj⟩
  · rintro H ⟨Z, env, fp, acc, accD, P, lp⟩
    rw [List.drop_length] at lp
    unfold loopA at lp
    cases lp
    exact lc_end hK rel1 nA h P
end
end Rf
end

-- text RfI
section
set_option Elab.async false
set_option linter.all false
set_option maxRecDepth 100000
set_option maxHeartbeats 1000000
/-! RfI: calls of defs. -/
namespace Rf
open PySem PySem.Spec PyProof.Rows L2

/-- what the arguments that the caller holds are behind a call -/
structure OutR (K : PySem.W.Frag) (H : Hp) (Z : Addr → Prop) (ss outs : List Sv) (vs : List V) (fps : Nat → List Addr) : Prop where
  at_ : ∀ j s, ss[j]? = some s → isOwn s = true → ∃ o v, outs[j]? = some o ∧ vs[j]? = some v ∧ SvR K H Z o v (fps j)
  no_ : ∀ j, (∀ s, ss[j]? = some s → isOwn s = false) → fps j = []
  dj : ∀ i j a, a ∈ fps i → a ∈ fps j → i = j
def PoC (K : PySem.W.Frag) (XR : Nat → Option D → Value → Option Addr → Hp → (Addr → Prop) → Prop) (H : Hp) (Z : Addr → Prop) (ss : List Sv) (vs : List V) (fps : Nat → List Addr) (Q : VK) (E : XK) : CR → Prop
  | .ok s outs => ∀ v H' Z' fps' fr, Step H Z (Ow fps) H' Z' (Owr fps' fr) → OutR K H' Z' ss outs vs fps' → Zok H' Z' → SvR K H' Z' s v fr → (∀ a ∈ fr, ¬ Ow fps' a) → Q v H'
  | .exc c p outs => ∀ cls d H' Z' fps', Step H Z (Ow fps) H' Z' (Ow fps') → OutR K H' Z' ss outs vs fps' → Zok H' Z' → XR c p cls d H' Z' → E cls d H'
  | .no => False
/-- a def's promise -/
def spF (K : PySem.W.Frag) (XR : Nat → Option D → Value → Option Addr → Hp → (Addr → Prop) → Prop) (n : Nat) (c : List Sv → CR) : Sp := fun vs H Q E => vs.length = n ∧ ∃ Z ss fps, Rel K H Z (ss.map some) (vs.map some) fps ∧ PoC K XR H Z ss vs fps Q E (c ss)

theorem slot_map {ss : List Sv} {j : Nat} : slot (ss.map some) j = ss[j]? := by
  rw [slot_eq, List.getElem?_map]
  cases ss[j]? <;> rfl
theorem RvAll.get {K : PySem.W.Frag} {H : Hp} {Z : Addr → Prop} {env : En} {σ : L2.St} : ∀ {rs : List Rv} {vs : List V} {f : List Addr}, RvAll K H Z env σ rs vs f → vs.length = rs.length ∧ ∀ (j : Nat) (r : Rv), rs[j]? = some r → ∃ v f1, vs[j]? = some v ∧ RvR K H Z env σ r v f1 ∧ ∀ a ∈ f1, a ∈ f
  | [], vs, f, h => by obtain ⟨rfl, rfl⟩ := h; exact ⟨rfl, fun j r e => by simp at e⟩
  | r :: rs, vs, f, h => by
    obtain ⟨v, vs', f1, f2, rfl, rfl, h1, h2, _⟩ := h
    obtain ⟨hl, ih⟩ := RvAll.get h2
    refine ⟨by simp [hl], fun j r' e => ?_⟩
    cases j with
    | zero => simp at e; subst e; exact ⟨v, f1, rfl, h1, fun a h => List.mem_append_left _ h⟩
    | succ j =>
      obtain ⟨v', f', h3, h4, h5⟩ := ih j r' (by simpa using e)
      exact ⟨v', f', by simpa using h3, h4, fun a h => List.mem_append_right _ (h5 a h)⟩
theorem RvAll.there {K : PySem.W.Frag} {H : Hp} {Z : Addr → Prop} {env : En} {σ : L2.St} : ∀ {rs : List Rv} {vs : List V} {f : List Addr}, RvAll K H Z env σ rs vs f → ∀ a ∈ f, ¬ Z a ∧ H a ≠ none
  | [], vs, f, h => by obtain ⟨rfl, rfl⟩ := h; simp
  | r :: rs, vs, f, h => by
    obtain ⟨v, vs', f1, f2, rfl, rfl, h1, h2, _⟩ := h
    intro a ha
    rcases List.mem_append.mp ha with ha | ha
    · exact RvR.owned h1 a ha
    · exact RvAll.there h2 a ha
theorem RvAll.norm {K : PySem.W.Frag} {H : Hp} {Z : Addr → Prop} {env : En} {σ : L2.St} {fp : Nat → List Addr} (rel : Rel K H Z env σ fp) : ∀ {rs : List Rv} {vs : List V} {f : List Addr}, RvAll K H Z env σ rs vs f → RvAll K H Z env σ (rs.map (Rf.norm env)) vs f
  | [], vs, f, h => h
  | r :: rs, vs, f, h => by
    obtain ⟨v, vs', f1, f2, rfl, rfl, h1, h2, h3⟩ := h
    refine ⟨v, vs', f1, f2, rfl, rfl, ?_, RvAll.norm rel h2, h3⟩
    cases r with
    | plc i =>
      obtain ⟨hv, ⟨s, hs⟩, rfl⟩ := h1
      show RvR K H Z env σ (match slot env i with | some (.dat d) => .dat d | _ => .plc i) v []
      rw [hs]
      cases s with
      | dat d =>
        obtain ⟨u, g1, g2⟩ := rel.at_ i _ hs
        rw [hv] at g1
        cases g1
        exact ⟨g2.1, rfl⟩
      | lst ds => exact ⟨hv, ⟨_, hs⟩, rfl⟩
      | dct _ => exact ⟨hv, ⟨_, hs⟩, rfl⟩
      | dtt _ => exact ⟨hv, ⟨_, hs⟩, rfl⟩
      | fdc _ => exact ⟨hv, ⟨_, hs⟩, rfl⟩
    | dat _ => exact h1
    | tl _ => exact h1
    | td _ => exact h1
    | tt _ => exact h1
theorem argsS_get {env : En} : ∀ {rs : List Rv} {ss : List Sv}, argsS env rs = some ss → ss.length = rs.length ∧ ∀ (j : Nat) (r : Rv), rs[j]? = some r → ∃ s, ss[j]? = some s ∧ argS env r = some s
  | [], ss, h => by
    have h : some [] = some ss := h
    cases h
    exact ⟨rfl, fun j r e => by simp at e⟩
  | r :: rs, ss, h => by
    have h : ((argS env r).bind fun s => (argsS env rs).map (s :: ·)) = some ss := h
    obtain ⟨s, h1, h⟩ := Option.bind_eq_some_iff.mp h
    obtain ⟨ss', h2, rfl⟩ := Option.map_eq_some_iff.mp h
    obtain ⟨hl, ih⟩ := argsS_get h2
    refine ⟨by simp [hl], fun j r' e => ?_⟩
    cases j with
    | zero => simp at e; subst e; exact ⟨s, rfl, h1⟩
    | succ j =>
      obtain ⟨s', h3, h4⟩ := ih j r' (by simpa using e)
      exact ⟨s', by simpa using h3, h4⟩
def placeIx : List Rv → Nat → Option Nat
  | [], _ => none
  | .plc i :: rs, k => if i = k then some 0 else (placeIx rs k).map (· + 1)
  | _ :: rs, k => (placeIx rs k).map (· + 1)
theorem placeIx_some : ∀ {rs : List Rv} {k j : Nat}, placeIx rs k = some j → rs[j]? = some (.plc k)
  | [], _, _, h => by cases h
  | .plc i :: rs, k, j, h => by
    unfold placeIx at h
    split at h
    · rename_i e; cases h; subst e; rfl
    · obtain ⟨j', h1, rfl⟩ := Option.map_eq_some_iff.mp h
      simpa using placeIx_some h1
  | .dat _ :: rs, k, j, h => by
    obtain ⟨j', h1, rfl⟩ := Option.map_eq_some_iff.mp (show (placeIx rs k).map (· + 1) = some j from h)
    simpa using placeIx_some h1
  | .tl _ :: rs, k, j, h => by
    obtain ⟨j', h1, rfl⟩ := Option.map_eq_some_iff.mp (show (placeIx rs k).map (· + 1) = some j from h)
    simpa using placeIx_some h1
  | .td _ :: rs, k, j, h => by
    obtain ⟨j', h1, rfl⟩ := Option.map_eq_some_iff.mp (show (placeIx rs k).map (· + 1) = some j from h)
    simpa using placeIx_some h1
  | .tt _ :: rs, k, j, h => by
    obtain ⟨j', h1, rfl⟩ := Option.map_eq_some_iff.mp (show (placeIx rs k).map (· + 1) = some j from h)
    simpa using placeIx_some h1
theorem mem_places : ∀ {rs : List Rv} {k : Nat}, k ∈ places rs ↔ ∃ j : Nat, rs[j]? = some (Rv.plc k)
  | [], k => by simp [places]
  | r :: rs, k => by
    have ih := @mem_places rs k
    constructor
    · intro h
      cases r with
      | plc i =>
        rcases List.mem_cons.mp (show k ∈ i :: places rs from h) with rfl | h
        · exact ⟨0, rfl⟩
        · obtain ⟨j, hj⟩ := ih.mp h; exact ⟨j + 1, by simpa using hj⟩
      | dat _ => obtain ⟨j, hj⟩ := ih.mp h; exact ⟨j + 1, by simpa using hj⟩
      | tl _ => obtain ⟨j, hj⟩ := ih.mp h; exact ⟨j + 1, by simpa using hj⟩
      | td _ => obtain ⟨j, hj⟩ := ih.mp h; exact ⟨j + 1, by simpa using hj⟩
      | tt _ => obtain ⟨j, hj⟩ := ih.mp h; exact ⟨j + 1, by simpa using hj⟩
    · rintro ⟨j, hj⟩
      cases j with
      | zero => simp at hj; subst hj; exact List.mem_cons_self
      | succ j =>
        have := ih.mpr ⟨j, by simpa using hj⟩
        cases r with
        | plc i => exact List.mem_cons_of_mem _ this
        | dat _ => exact this
        | tl _ => exact this
        | td _ => exact this
        | tt _ => exact this
theorem placeIx_none : ∀ {rs : List Rv} {k : Nat}, placeIx rs k = none → k ∉ places rs
  | [], _, _ => by simp [places]
  | .plc i :: rs, k, h => by
    unfold placeIx at h
    split at h
    · cases h
    · rename_i e
      have := placeIx_none (Option.map_eq_none_iff.mp h)
      intro q
      rcases List.mem_cons.mp (show k ∈ i :: places rs from q) with q | q
      · exact e q.symm
      · exact this q
  | .dat _ :: rs, k, h => placeIx_none (rs := rs) (Option.map_eq_none_iff.mp h)
  | .tl _ :: rs, k, h => placeIx_none (rs := rs) (Option.map_eq_none_iff.mp h)
  | .td _ :: rs, k, h => placeIx_none (rs := rs) (Option.map_eq_none_iff.mp h)
  | .tt _ :: rs, k, h => placeIx_none (rs := rs) (Option.map_eq_none_iff.mp h)
theorem places_inj : ∀ {rs : List Rv} {k i j : Nat}, nodupB (places rs) = true → rs[i]? = some (.plc k) → rs[j]? = some (.plc k) → i = j
  | [], _, _, _, _, h, _ => by simp at h
  | r :: rs, k, i, j, hn, h1, h2 => by
    have hn' : nodupB (places rs) = true := by
      cases r with
      | plc l => have := hn; simp only [places, nodupB, Bool.and_eq_true] at this; exact this.2
      | dat _ => exact hn
      | tl _ => exact hn
      | td _ => exact hn
      | tt _ => exact hn
    cases i with
    | zero =>
      cases j with
      | zero => rfl
      | succ j =>
        simp at h1
        subst h1
        have hm : k ∈ places rs := mem_places.mpr ⟨j, by simpa using h2⟩
        have := hn
        simp only [places, nodupB, Bool.and_eq_true, Bool.not_eq_true'] at this
        have q := this.1
        simp [hm] at q
    | succ i =>
      cases j with
      | zero =>
        simp at h2
        subst h2
        have hm : k ∈ places rs := mem_places.mpr ⟨i, by simpa using h1⟩
        have := hn
        simp only [places, nodupB, Bool.and_eq_true, Bool.not_eq_true'] at this
        have q := this.1
        simp [hm] at q
      | succ j =>
        have h1 : rs[i]? = some (.plc k) := by simpa using h1
        have h2 : rs[j]? = some (.plc k) := by simpa using h2
        have := places_inj (rs := rs) hn' h1 h2
        rw [this]
theorem backS_length : ∀ {rs : List Rv} {outs : List Sv} {env : En}, (backS rs outs env).length = env.length
  | [], _, _ => by simp [backS]
  | r :: rs, [], _ => by cases r <;> simp [backS]
  | r :: rs, s :: ss, env => by
    cases r with
    | plc i => show (backS rs ss (env.set i (some s))).length = _; rw [backS_length]; simp
    | dat _ => show (backS rs ss env).length = _; rw [backS_length]
    | tl _ => show (backS rs ss env).length = _; rw [backS_length]
    | td _ => show (backS rs ss env).length = _; rw [backS_length]
    | tt _ => show (backS rs ss env).length = _; rw [backS_length]
theorem backS_other : ∀ {rs : List Rv} {outs : List Sv} {env : En} {k : Nat}, k ∉ places rs → slot (backS rs outs env) k = slot env k
  | [], _, _, _, _ => by simp [backS]
  | r :: rs, [], _, _, _ => by cases r <;> simp [backS]
  | r :: rs, s :: ss, env, k, h => by
    cases r with
    | plc i =>
      have h : k ∉ i :: places rs := h
      show slot (backS rs ss (env.set i (some s))) k = _
      rw [backS_other fun q => h (List.mem_cons_of_mem _ q)]
      by_cases hi : i < env.length
      · rw [slot_set hi, if_neg fun e => h (by rw [e]; exact List.mem_cons_self)]
      · rw [List.set_eq_of_length_le (by omega)]
    | dat _ => exact backS_other (rs := rs) h
    | tl _ => exact backS_other (rs := rs) h
    | td _ => exact backS_other (rs := rs) h
    | tt _ => exact backS_other (rs := rs) h
theorem backS_at : ∀ {rs : List Rv} {outs : List Sv} {env : En} {k j : Nat} {o : Sv}, nodupB (places rs) = true → rs[j]? = some (.plc k) → outs[j]? = some o → k < env.length → slot (backS rs outs env) k = some o
  | [], _, _, _, _, _, _, h, _, _ => by simp at h
  | r :: rs, [], _, _, _, _, _, _, h, _ => by simp at h
  | r :: rs, s :: ss, env, k, j, o, hn, h1, h2, hk => by
    have hn' : nodupB (places rs) = true := by
      cases r with
      | plc l => have := hn; simp only [places, nodupB, Bool.and_eq_true] at this; exact this.2
      | dat _ => exact hn
      | tl _ => exact hn
      | td _ => exact hn
      | tt _ => exact hn
    cases j with
    | zero =>
      simp at h1 h2
      subst h1 h2
      show slot (backS rs ss (env.set k (some s))) k = _
      have hm : k ∉ places rs := by
        have := hn
        simp only [places, nodupB, Bool.and_eq_true, Bool.not_eq_true'] at this
        simpa using this.1
      rw [backS_other hm, slot_set hk, if_pos rfl]
    | succ j =>
      have h1 : rs[j]? = some (.plc k) := by simpa using h1
      have h2 : ss[j]? = some o := by simpa using h2
      cases r with
      | plc i => exact backS_at (rs := rs) hn' h1 h2 (by simpa using hk)
      | dat _ => exact backS_at (rs := rs) hn' h1 h2 hk
      | tl _ => exact backS_at (rs := rs) hn' h1 h2 hk
      | td _ => exact backS_at (rs := rs) hn' h1 h2 hk
      | tt _ => exact backS_at (rs := rs) hn' h1 h2 hk
theorem backS_kp : ∀ {rs : List Rv} {outs : List Sv} {env : En}, Kp env (backS rs outs env)
  | [], _, _ => by unfold backS; exact .refl
  | r :: rs, [], _ => by cases r <;> exact .refl
  | r :: rs, s :: ss, env => by
    cases r with
    | plc i => exact Kp.set.trans (backS_kp (rs := rs) (outs := ss))
    | dat _ => exact backS_kp (rs := rs)
    | tl _ => exact backS_kp (rs := rs)
    | td _ => exact backS_kp (rs := rs)
    | tt _ => exact backS_kp (rs := rs)

def plFp (fp : Nat → List Addr) : Rv → List Addr
  | .plc i => fp i
  | _ => []
def fpsOf (rs : List Rv) (fp : Nat → List Addr) : Nat → List Addr := fun j => match rs[j]? with
  | some (.plc i) => fp i
  | _ => []
def fpBack (rs : List Rv) (fps fp : Nat → List Addr) : Nat → List Addr := fun k => match placeIx rs k with
  | some j => fps j
  | none => fp k
theorem fpsOf_ow {rs : List Rv} {fp : Nat → List Addr} {a : Addr} (h : Ow (fpsOf rs fp) a) : ∃ j i : Nat, rs[j]? = some (Rv.plc i) ∧ a ∈ fp i := by
  obtain ⟨j, hj⟩ := h
  unfold fpsOf at hj
  split at hj
  · exact ⟨j, _, by assumption, hj⟩
  · simp at hj

section
variable {S : Sx} {σ : L2.St} {H : Hp} {Z : Addr → Prop} {env : En} {fp : Nat → List Addr}
/-- the arguments as the callee's slots -/
theorem args_rel {rs : List Rv} {vs : List V} {fr : List Addr} {ss : List Sv} (rel : Rel S.K H Z env σ fp) (t : RvAll S.K H Z env σ rs vs fr) (ap : ∀ x ∈ fr, ¬ Ow fp x) (hn : nodupB (places rs) = true) (hs : argsS env rs = some ss)
    (hr : ∀ i : Nat, Rv.plc i ∈ rs → ∀ d, slot env i ≠ some (.dat d)) : Rel S.K H (fun a => Z a ∨ a ∈ fr) (ss.map some) (vs.map some) (fpsOf rs fp) ∧ ∀ j i : Nat, rs[j]? = some (Rv.plc i) → ∃ s, ss[j]? = some s ∧ isOwn s = true := by
  obtain ⟨hl, hg⟩ := t.get
  obtain ⟨hl2, hg2⟩ := argsS_get hs
  have key : ∀ (j : Nat) (r : Rv), rs[j]? = some r → ∃ s v, ss[j]? = some s ∧ vs[j]? = some v ∧ SvR S.K H (fun a => Z a ∨ a ∈ fr) s v (fpsOf rs fp j) ∧ ((∃ i, r = .plc i) → isOwn s = true) := fun j r e => by
    obtain ⟨v, f1, h1, h2, h3⟩ := hg j r e
    obtain ⟨s, h4, h5⟩ := hg2 j r e
    refine ⟨s, v, h4, h1, ?_⟩
    have ef : fpsOf rs fp j = plFp fp r := by unfold fpsOf; rw [e]; cases r <;> rfl
    rw [ef]
    cases r with
    | dat d =>
      cases h5
      exact ⟨⟨h2.1.mono (fun _ h => .inl h) fun _ _ _ e => e, rfl⟩, fun ⟨i, q⟩ => nomatch q⟩
    | tl ds =>
      cases h5
      obtain ⟨a, us, rfl, rfl, ea, ha, nz⟩ := h2
      exact ⟨⟨.lst (.inr (h3 a (by simp))) (.inl ea) (ha.mono (fun _ h => .inl h) fun _ _ _ e => e), rfl⟩, fun ⟨i, q⟩ => nomatch q⟩
    | td _ => cases h5
    | tt _ => cases h5
    | plc i =>
      have h5 : slot env i = some s := h5
      obtain ⟨hv, _, rfl⟩ := h2
      obtain ⟨u, g1, g2⟩ := rel.at_ i s h5
      rw [hv] at g1
      cases g1
      cases s with
      | dat d => exact absurd h5 (hr i (List.mem_of_getElem? e) d)
      | lst ds =>
        obtain ⟨a, us, rfl, hf, ea, ha, nz⟩ := g2
        exact ⟨⟨a, us, rfl, hf, ea, ha.mono (fun _ h => .inl h) fun _ _ _ e => e, fun z => z.elim nz fun q => ap a q ⟨i, by rw [hf]; simp⟩⟩, fun _ => rfl⟩
      | dct ds =>
        obtain ⟨a, us, rfl, hf, ea, ha, nz⟩ := g2
        exact ⟨⟨a, us, rfl, hf, ea, ha.mono (fun _ h => .inl h) fun _ _ _ e => e, fun z => z.elim nz fun q => ap a q ⟨i, by rw [hf]; simp⟩⟩, fun _ => rfl⟩
      | dtt ds =>
        obtain ⟨a, us, rfl, hf, ea, ha, nz⟩ := g2
        exact ⟨⟨a, us, rfl, hf, ea, ha.mono (fun _ h => .inl h) fun _ _ _ e => e, fun z => z.elim nz fun q => ap a q ⟨i, by rw [hf]; simp⟩⟩, fun _ => rfl⟩
      | fdc ds =>
        obtain ⟨a, us, o, rfl, hf, z, ea, ha⟩ := g2
        exact ⟨⟨a, us, o, rfl, hf, .inl z, ea, ha.mono (fun _ h => .inl h) fun _ _ _ e => e⟩, fun _ => rfl⟩
  refine ⟨⟨fun j s hj => ?_, fun j hj => ?_, fun i j a h1 h2 => ?_, by simp [hl, hl2], fun a z => z.elim (rel.zs a) fun q => (t.there a q).2⟩, fun j i e => ?_⟩
  · rw [slot_map] at hj
    have hj2 : j < rs.length := by rw [← hl2]; exact (List.getElem?_eq_some_iff.mp hj).1
    obtain ⟨s', v, g1, g2, g3, _⟩ := key j rs[j] (List.getElem?_eq_getElem hj2)
    rw [hj] at g1
    cases g1
    exact ⟨v, by rw [List.getElem?_map, g2]; rfl, g3⟩
  · rw [slot_map] at hj
    unfold fpsOf
    have : rs.length ≤ j := by rw [← hl2]; exact List.getElem?_eq_none_iff.mp hj
    rw [List.getElem?_eq_none this]
  · unfold fpsOf at h1 h2
    split at h1
    · rename_i i' ei
      split at h2
      · rename_i j' ej
        have := rel.dj i' j' a h1 h2
        subst this
        exact places_inj hn ei ej
      · simp at h2
    · simp at h1
  · obtain ⟨s, v, g1, g2, g3, g4⟩ := key j _ e
    exact ⟨s, g1, g4 ⟨i, rfl⟩⟩
/-- the slots behind a call -/
theorem back_rel {rs : List Rv} {vs : List V} {fr fr' : List Addr} {ss outs : List Sv} {H' : Hp} {Z' : Addr → Prop} {fps' : Nat → List Addr} (rel : Rel S.K H Z env σ fp) (t : RvAll S.K H Z env σ rs vs fr) (ap : ∀ x ∈ fr, ¬ Ow fp x) (hn : nodupB (places rs) = true)
    (ho : ∀ j i : Nat, rs[j]? = some (Rv.plc i) → ∃ s, ss[j]? = some s ∧ isOwn s = true) (st : Step H (fun a => Z a ∨ a ∈ fr) (Ow (fpsOf rs fp)) H' Z' (Owr fps' fr')) (out : OutR S.K H' Z' ss outs vs fps') (zok : Zok H' Z') :
    Rel S.K H' Z' (backS rs outs env) σ (fpBack rs fps' fp) ∧ Step H Z (Owr fp fr) H' Z' (Owr (fpBack rs fps' fp) fr') := by
  obtain ⟨_, hg⟩ := t.get
  have zo : ∀ a, (Z a ∨ a ∈ fr) → ¬ Ow (fpsOf rs fp) a := fun a z o => by
    obtain ⟨j, i, _, hi⟩ := fpsOf_ow o
    exact z.elim (fun z => rel.zo a z ⟨i, hi⟩) fun q => ap a q ⟨i, hi⟩
  have off : ∀ {k : Nat} {a : Addr}, placeIx rs k = none → a ∈ fp k → ¬ Ow (fpsOf rs fp) a := fun {k a} hk ha o => by
    obtain ⟨j, i, e, hi⟩ := fpsOf_ow o
    have := rel.dj k i a ha hi
    subst this
    exact placeIx_none hk (mem_places.mpr ⟨j, e⟩)
  have cross : ∀ {k : Nat} {a : Addr}, placeIx rs k = none → a ∈ fp k → ¬ Owr fps' fr' a := fun {k a} hk ha o => by
    rcases st.new a o with q | q
    · exact off hk ha q
    · exact (rel.owned ⟨k, ha⟩).2 q
  constructor
  · refine ⟨fun k s hs => ?_, fun k hk => ?_, fun i j a h1 h2 => ?_, by rw [backS_length]; exact rel.len, zok⟩
    · unfold fpBack
      cases q : placeIx rs k with
      | none =>
        rw [backS_other (placeIx_none q)] at hs
        obtain ⟨v, g1, g2⟩ := rel.at_ k s hs
        have g3 : SvR S.K H (fun a => Z a ∨ a ∈ fr) s v (fp k) := by
          cases s with
          | dat d => exact ⟨g2.1.mono (fun _ h => .inl h) fun _ _ _ e => e, g2.2⟩
          | lst ds =>
            obtain ⟨a, us, rfl, hf, ea, ha, nz⟩ := g2
            exact ⟨a, us, rfl, hf, ea, ha.mono (fun _ h => .inl h) fun _ _ _ e => e, fun z => z.elim nz fun q => ap a q ⟨k, by rw [hf]; simp⟩⟩
          | dct ds =>
            obtain ⟨a, us, rfl, hf, ea, ha, nz⟩ := g2
            exact ⟨a, us, rfl, hf, ea, ha.mono (fun _ h => .inl h) fun _ _ _ e => e, fun z => z.elim nz fun q => ap a q ⟨k, by rw [hf]; simp⟩⟩
          | dtt ds =>
            obtain ⟨a, us, rfl, hf, ea, ha, nz⟩ := g2
            exact ⟨a, us, rfl, hf, ea, ha.mono (fun _ h => .inl h) fun _ _ _ e => e, fun z => z.elim nz fun q => ap a q ⟨k, by rw [hf]; simp⟩⟩
          | fdc ds =>
            obtain ⟨a, us, o, rfl, hf, z, ea, ha⟩ := g2
            exact ⟨a, us, o, rfl, hf, .inl z, ea, ha.mono (fun _ h => .inl h) fun _ _ _ e => e⟩
        exact ⟨v, g1, g3.step st zo fun a ha => off q ha⟩
      | some j =>
        have e := placeIx_some q
        obtain ⟨v, f1, h1, h2, _⟩ := hg j _ e
        obtain ⟨hv, ⟨s0, hs0⟩, _⟩ := h2
        obtain ⟨s1, hs1, hw⟩ := ho j k e
        obtain ⟨o, v', h3, h4, h5⟩ := out.at_ j s1 hs1 hw
        rw [h1] at h4
        cases h4
        rw [backS_at hn e h3 (slot_lt hs0)] at hs
        cases hs
        exact ⟨v, hv, h5⟩
    · unfold fpBack
      cases q : placeIx rs k with
      | none =>
        rw [backS_other (placeIx_none q)] at hk
        exact rel.no_ k hk
      | some j =>
        have e := placeIx_some q
        obtain ⟨v, f1, h1, h2, _⟩ := hg j _ e
        obtain ⟨hv, ⟨s0, hs0⟩, _⟩ := h2
        obtain ⟨s1, hs1, hw⟩ := ho j k e
        obtain ⟨o, v', h3, h4, h5⟩ := out.at_ j s1 hs1 hw
        rw [backS_at hn e h3 (slot_lt hs0)] at hk
        cases hk
    · unfold fpBack at h1 h2
      cases qi : placeIx rs i with
      | none =>
        rw [qi] at h1
        cases qj : placeIx rs j with
        | none => rw [qj] at h2; exact rel.dj i j a h1 h2
        | some l => rw [qj] at h2; exact (cross qi h1 (.inl ⟨l, h2⟩)).elim
      | some l =>
        rw [qi] at h1
        cases qj : placeIx rs j with
        | none => rw [qj] at h2; exact (cross qj h2 (.inl ⟨l, h1⟩)).elim
        | some m =>
          rw [qj] at h2
          have := out.dj l m a h1 h2
          subst this
          have e1 := placeIx_some qi
          have e2 := placeIx_some qj
          rw [e1] at e2
          cases e2
          rfl
  · have s0 : Step H Z (Owr fp fr) H (fun a => Z a ∨ a ∈ fr) (Ow fp) := ⟨fun _ h => .inl h, fun x o e n => ⟨e, fun z => z.elim (fun z => z) fun q => absurd (.inr q) n⟩, fun x h => .inl (.inl h)⟩
    refine s0.trans (st.weak (fun x o => by obtain ⟨j, i, _, hi⟩ := fpsOf_ow o; exact ⟨i, hi⟩) fun x o => ?_)
    rcases o with ⟨k, hk⟩ | o
    · unfold fpBack at hk
      cases q : placeIx rs k with
      | none => rw [q] at hk; exact .inr (.inl ⟨k, hk⟩)
      | some j => rw [q] at hk; exact .inl (.inl ⟨j, hk⟩)
    · exact .inl (.inr o)
end
theorem norm_dat {env : En} {rs : List Rv} : ∀ i : Nat, Rv.plc i ∈ rs.map (norm env) → ∀ d, slot env i ≠ some (.dat d) := fun i h d e => by
  obtain ⟨r, _, hr⟩ := List.mem_map.mp h
  cases r with
  | plc k =>
    have hr : (match slot env k with | some (.dat d) => Rv.dat d | _ => .plc k) = .plc i := hr
    split at hr
    · cases hr
    · rename_i hne
      cases hr
      exact hne d e
  | dat _ => cases hr
  | tl _ => cases hr
  | td _ => cases hr
  | tt _ => cases hr

section
variable {X : Cx} {S : Sx} (hK : S.K = X.K)
include hK
theorem ok_app_core {f np : Nat} {es : Es} (hnp : ∀ ss, S.M.call f ss ≠ .no → ss.length = np) {σ : L2.St} {H : Hp} {Q : VK} (h : rdE S (.app f es) σ H Q) :
    rdA S es σ H fun vs H1 => spF X.K S.XR np (S.M.call f) vs H1 Q (WE S.W σ) := by
  obtain ⟨Z, env, fp, rel, h⟩ := h
  unfold evE at h
  refine ⟨Z, env, fp, rel, Po.seq h fun rs0 e1 vs H1 Z1 fp1 fr1 st1 kp1 rel1 t0 ap1 h => ?_⟩
  have t1 := RvAll.norm rel1 t0
  dsimp only at h
  unfold callR at h
  have hr := norm_dat (env := e1) (rs := rs0)
  revert h t1 hr
  generalize rs0.map (norm e1) = rs
  intro h t1 hr
  unfold callN at h
  split at h
  · rename_i hn
    split at h
    · exact h.elim
    · rename_i ss hs
      obtain ⟨relc, ho⟩ := args_rel rel1 t1 ap1 hn hs hr
      have hlen : ss.length = vs.length := by have := relc.len; simpa using this
      rw [← hK]
      have hnp' : S.M.call f ss ≠ .no → vs.length = np := fun q => by rw [← hlen]; exact hnp ss q
      cases hc : S.M.call f ss with
      | no => rw [hc] at h; exact h.elim
      | exc c p outs =>
        rw [hc] at h
        refine ⟨hnp' (by rw [hc]; exact fun q => nomatch q), _, ss, _, relc, ?_⟩
        rw [hc]
        intro cls d H' Z' fps' st out zok xr
        obtain ⟨r2, s2⟩ := back_rel rel1 t1 ap1 hn ho st.owr out zok
        exact h cls d H' Z' _ (by simpa using s2.ow) backS_kp r2 xr
      | ok s outs =>
        rw [hc] at h
        refine ⟨hnp' (by rw [hc]; exact fun q => nomatch q), _, ss, _, relc, ?_⟩
        rw [hc]
        intro v H' Z' fps' fr st out zok hv apf
        obtain ⟨r2, s2⟩ := back_rel rel1 t1 ap1 hn ho st out zok
        have ap2 : ∀ x ∈ fr, ¬ Ow (fpBack rs fps' fp1) x := fun x hx o => by
          obtain ⟨k, hk⟩ := o
          unfold fpBack at hk
          cases q : placeIx rs k with
          | some j => rw [q] at hk; exact apf x hx ⟨j, hk⟩
          | none =>
            rw [q] at hk
            rcases st.new x (.inr hx) with o | o
            · obtain ⟨j, i, e, hi⟩ := fpsOf_ow o
              have := rel1.dj k i x hk hi
              subst this
              exact placeIx_none q (mem_places.mpr ⟨j, e⟩)
            · exact (rel1.owned ⟨k, hk⟩).2 o
        cases s with
        | dat d => exact h v H' Z' _ fr (by simpa using s2) backS_kp r2 hv ap2
        | lst ds => exact h v H' Z' _ fr (by simpa using s2) backS_kp r2 hv ap2
        | dct ds => exact h v H' Z' _ fr (by simpa using s2) backS_kp r2 hv ap2
        | dtt ds => exact h v H' Z' _ fr (by simpa using s2) backS_kp r2 hv ap2
        | fdc ds => exact h.elim
  · exact h.elim
theorem ok_app {f np k : Nat} {fa : Addr} {fd : FuncData} {ps : List Str} {es : Es} {y : Str} {z : Expr} {zs : List Expr} {p pos : Pos} (hnp : ∀ ss, S.M.call f ss ≠ .no → ss.length = np)
    (F : FnOk X.prog X.w X.K X.mg X.base (L2.CX X.prog X.w) k fa fd ps (spF X.K S.XR np (S.M.call f))) (hr : Room k X.A) (hg : Gl X y) (hm : X.mg y = some (.ref fa)) (hk : PySem.W.keepIn X.K (.ref fa) = true) (hb : Binds X.K fd ps [])
    (tk : Takes X S.W) (ha : PA X (z :: zs) (rdA S es)) (hd : (y == ("__debug__" : Str)) = false) (hs : starEach (z :: zs) X.env = (false, eval z X.env) :: starEach zs X.env) (hp : (backTo pos (starEach zs X.env)).any (·.1) = false) :
    PE X (.Call (.Name y p) (z :: zs) [] pos) (rdE S (.app f es)) := by
  refine (pe_callSD (dvs := []) (E := WE S.W) F hr hg hm hk hb .nil (fun σ => passAt tk σ) ha hd hs hp).imp fun σ H Q h => ?_
  obtain ⟨Z, env, fp, rel, h⟩ := ok_app_core hK hnp h
  exact ⟨Z, env, fp, rel, h.mono fun vs H1 q => by rw [List.append_nil]; exact q⟩
theorem ok_app0 {f np k : Nat} {fa : Addr} {fd : FuncData} {ps : List Str} {y : Str} {p pos : Pos} (hnp : ∀ ss, S.M.call f ss ≠ .no → ss.length = np)
    (F : FnOk X.prog X.w X.K X.mg X.base (L2.CX X.prog X.w) k fa fd ps (spF X.K S.XR np (S.M.call f))) (hr : Room k X.A) (hg : Gl X y) (hm : X.mg y = some (.ref fa)) (hk : PySem.W.keepIn X.K (.ref fa) = true) (hb : Binds X.K fd ps [])
    (tk : Takes X S.W) (hd : (y == ("__debug__" : Str)) = false) : PE X (.Call (.Name y p) [] [] pos) (rdE S (.app f .nil)) := by
  refine ⟨fun pins s σ H Q I h => ?_⟩
  refine wpAny_Call_Name_kw (ld_glob I hg hm ?_ hd)
  obtain ⟨Z, env, fp, rel, h⟩ := ok_app_core hK hnp h
  unfold evA at h
  have q := h.now rel .refl rel.zs (fr := []) (by simp) (show tA S σ [] [] H Z env [] from ⟨rfl, rfl⟩)
  exact PySem.W.callWith_K0 I.kIn hk (run_fnSD (us := []) (dvs := []) (E := WE S.W) F hr hb .nil (passAt tk σ) I .nil q)
end
end Rf
end

-- text RfJ
section
set_option Elab.async false
set_option linter.all false
set_option maxRecDepth 100000
set_option maxHeartbeats 1000000
/-! RfJ: methods that change a list; all terms. -/
namespace Rf
open PySem PySem.Spec PyProof.Rows L2

theorem Rel.write {K : PySem.W.Frag} {H : Hp} {Z : Addr → Prop} {env : En} {σ : L2.St} {fp : Nat → List Addr} {i : Nat} {s s' : Sv} {l : Addr} {o : HO} (rel : Rel K H Z env σ fp) (hs : slot env i = some s) (hv : σ[i]? = some (some (.ref l))) (hf : fp i = [l])
    (hn : SvR K (upd H l o) Z s' (.ref l) [l]) : Rel K (upd H l o) Z (env.set i (some s')) σ fp := by
  have hi := slot_lt hs
  have st : Step H Z (fun x => x = l) (upd H l o) Z (fun x => x = l) := ⟨fun _ h => h, fun x u e n => ⟨by rw [upd_ne n]; exact e, fun z => z⟩, fun _ h => .inl h⟩
  have nz : ¬ Z l := (rel.owned ⟨i, by rw [hf]; simp⟩).1
  refine ⟨fun j t hj => ?_, fun j hj => ?_, rel.dj, by rw [List.length_set]; exact rel.len, rel.zs.upd⟩
  · rw [slot_set hi] at hj
    by_cases q : i = j
    · subst q
      rw [if_pos rfl] at hj
      cases hj
      exact ⟨_, hv, by rw [hf]; exact hn⟩
    · rw [if_neg q] at hj
      obtain ⟨u, g1, g2⟩ := rel.at_ j t hj
      exact ⟨u, g1, g2.step st (fun x z e => nz (e ▸ z)) fun x hx e => q (rel.dj i j l (by rw [hf]; simp) (e ▸ hx))⟩
  · rw [slot_set hi] at hj
    by_cases q : i = j
    · rw [if_pos q] at hj; cases hj
    · rw [if_neg q] at hj; exact rel.no_ j hj
theorem write_step {H : Hp} {Z : Addr → Prop} {fp : Nat → List Addr} {fx : List Addr} {i : Nat} {l : Addr} {o : HO} (hf : fp i = [l]) : Step H Z (Owr fp fx) (upd H l o) Z (Owr fp []) :=
  ⟨fun _ h => h, fun x u e n => ⟨by rw [upd_ne fun q => n (.inl ⟨i, by rw [hf, q]; simp⟩)]; exact e, fun z => z⟩, fun x h => .inl (h.elim .inl fun h => by simp at h)⟩

theorem list_extendG (l : Addr) (items : Array Value) (n : Nat) (b : Addr) (items2 : Array Value) (n2 : Nat) (dd2 : Option Addr) (sl2 : Array (Option Value)) (hc0 : ¬(!items.isEmpty && Builtin.List.listTooLong (items.size + items2.size)) = true) (hc1 : items.size ≤ sizeLine) (hs2 : items.size + items2.size ≤ sizeLine + 1) :
    Meets (Builtin.«list.extend» ⟨[.ref l, .ref b], []⟩) (fun _ R s => s.heap.get? l = some { cls := .type "list", dict := none, data := .seq items n, slots := #[] } ∧ s.heap.get? b = some { cls := .type "list", dict := dd2, data := .seq items2 n2, slots := sl2 } ∧ R (.ok (.ret Value.none)) { s with heap := s.heap.update l (Obj.mapSeq fun x => x ++ items2), toks := s.toks }) :=
  .of_wp fun prog w A R s h => by
    obtain ⟨hp, g, d, tk, os⟩ := s; obtain ⟨hl, hb, h⟩ := h; have f1 := AutoSeq1.idx_int; have f2 := AutoSeq1.sub_tuple_tuple; have f3 := AutoSeq1.sub_list_list; have f4 := AutoSeq1.sub_tuple_list; have f5 := AutoSeq1.sub_list_tuple;
    have hz' : (items ++ items2).size ≤ sizeLine + 1 := by rw [Array.size_append]; exact hs2
    wp_walk using (wpAny_updateSeq hl rfl (hz := hc1) (_hz' := hz')), wpAny_loadPart' hl, wpAny_loadPart' hb; exact ⟨_, rfl, h⟩
/-- xs.extend(ys), ys any list -/
def rExtG (K : PySem.W.Frag) : V → List V → Hp → VK → Prop := fun x vs H Q => ∃ l b xs zs, x = .ref l ∧ vs = [.ref b] ∧ H l = some (.lst xs) ∧ SqL K H b zs ∧ xs.length + zs.length ≤ sizeLine ∧ Q .non (upd H l (.lst (xs ++ zs)))
theorem mt_extG {X : Cx} : MtR X "list.extend" (rExtG X.K) := by
  intro pins s σ H x vs v us Q I rx rv h
  obtain ⟨l, b, xs, zs, rfl, rfl, hH, hB, hz, q⟩ := h
  cases rx
  have eu := Vals.ref1 rv
  subst eu
  obtain ⟨z, its, n, r, hl, e⟩ := I.lstM hH
  obtain ⟨its2, r2, ⟨⟨cl2, dd2, da2, sl2⟩, n2, h2, c2, d2, e2⟩, z2⟩ := I.list hB
  simp only at c2 e2
  subst c2 e2
  have hl2 := r2.length
  refine call_meets F.slot_list_extend ⟨_, e, rfl⟩ F.entry_list_extend (F.args_list_extend_2 _ _) (list_extendG l its.toArray n b its2.toArray n2 dd2 sl2 ?_ ?_ ?_) ⟨e, h2, ?_⟩
  · rw [notLongL (by rw [List.size_toArray, List.size_toArray]; omega)]; simp
  · rw [List.size_toArray]; omega
  · rw [List.size_toArray, List.size_toArray]; omega
  · refine ⟨.non, _, I.lset (t' := s.toks) (its := its) (its' := its ++ its2) (n := n) (f := fun x => x ++ its2.toArray) hH e ?_ (r.append r2) (by rw [List.length_append]; exact hz), rfl, q⟩
    simp

theorem mthW_app {m : Mth} (hm : m = .append ∨ m = .extend) {s s' : Sv} {ds : List D} {d : D} (h : mthW m s ds = some (d, s')) : ∃ xs, s = .lst xs ∧ d = .none ∧ ((m = .append ∧ ∃ x, ds = [x] ∧ s' = .lst (xs ++ [x]) ∧ xs.length + 1 ≤ sizeLine) ∨ (m = .extend ∧ ∃ ys, ds = [.list ys] ∧ s' = .lst (xs ++ ys) ∧ xs.length + ys.length ≤ sizeLine)) := by
  unfold mthW at h
  split at h
  · split at h
    · rename_i hs
      cases h
      exact ⟨_, rfl, rfl, .inl ⟨rfl, _, rfl, rfl, sizeOk_le hs⟩⟩
    · cases h
  · split at h
    · rename_i hs
      cases h
      exact ⟨_, rfl, rfl, .inr ⟨rfl, _, rfl, rfl, sizeOk_le hs⟩⟩
    · cases h
  · cases h
def rMut (K : PySem.W.Frag) (m : Mth) : V → List V → Hp → VK → Prop := match m with
  | .append => rAppend
  | _ => rExtG K
section
variable {X : Cx} {S : Sx} (hK : S.K = X.K)
include hK
theorem ok_mut_core {m : Mth} {i : Nat} {es : Es} (hm : m = .append ∨ m = .extend) {σ : L2.St} {H : Hp} {Q : VK} (h : rdE S (.mut m i es) σ H Q) : tBM X.K "list" (rMut X.K m) (tVar i) (rdDs S es) σ H Q := by
  obtain ⟨Z, env, fp, rel, h⟩ := h
  unfold evE at h
  split at h
  · rename_i ds0 e0
    obtain ⟨v, hv, hr⟩ := rel.at_ i _ e0
    obtain ⟨l, us0, rfl, hf0, eh0, _, _⟩ := hr
    refine ⟨_, hv, .inl ⟨rfl, us0, .of eh0⟩, ?_⟩
    refine ⟨Z, env, fp, rel, Po.seq h fun ds e1 vs H1 Z1 fp1 fr1 st1 kp1 rel1 t1 ap1 h => ?_⟩
    obtain ⟨t1, rfl⟩ := t1
    dsimp only at h
    split at h
    · rename_i s hs
      obtain ⟨⟨d, s'⟩, em, h⟩ := h.opt
      obtain ⟨xs, rfl, rfl, hc⟩ := mthW_app hm em
      obtain ⟨v2, hv2, hr2⟩ := rel1.at_ i _ hs
      rw [hv] at hv2
      cases hv2
      obtain ⟨l', us, e', hf, eh, ra, nz⟩ := hr2
      cases e'
      have fin : ∀ ys zs, s' = .lst zs → RpAll S.K H1 Z1 ys zs → Q .non (upd H1 l (.lst ys)) := fun ys zs es hy => by
        subst es
        have hn : SvR S.K (upd H1 l (.lst ys)) Z1 (.lst zs) (.ref l) [l] := ⟨l, ys, rfl, rfl, upd_same, hy.mono (fun _ h => h) fun a o z e => by rw [upd_ne fun q => nz (by rw [← q]; exact z)]; exact e, nz⟩
        exact h .non (upd H1 l (.lst ys)) Z1 fp1 [] (write_step hf) .set (rel1.write hs hv hf hn) ⟨.non, rfl⟩ (by simp)
      rcases hc with ⟨rfl, x, rfl, es', hz⟩ | ⟨rfl, ys, rfl, es', hz⟩
      · cases t1 with
        | cons r1 r2 =>
          cases r2
          exact ⟨l, us, _, rfl, rfl, eh, by rw [ra.length]; exact hz, fin _ _ es' (ra.snoc r1)⟩
      · cases t1 with
        | cons r1 r2 =>
          cases r2
          obtain ⟨b, zs, rfl, rb, hp⟩ := rp_seqL r1
          exact ⟨l, b, us, zs, rfl, rfl, eh, by rw [← hK]; exact hp _ _ .refl, by rw [ra.length, rb.length]; exact hz, fin _ _ es' (ra.append rb)⟩
    · exact h.elim
  · exact h.elim
end

/-- __init__(self, place) of an exception that bears its place -/
def spI (A : Addr) : Sp := fun vs H Q _ => ∃ (a : Addr) (y : V), vs = [.ref a, y] ∧ H a = some (exo a A none) ∧ ∀ dx, H dx = none → dx ≠ a → Q .non (upd (upd H dx (exd dx [("place", y)])) a (exo a A (some dx)))
/-- where a term stands -/
structure Cn (X : Cx) (C : Ck) (S : Sx) : Prop where
  K : S.K = X.K
  N : X.N = C.N
  nd : X.N.Nodup
  sc : X.env.scope = C.sc
  fn : ∀ x, C.fn x = true → X.fn x = true
  calm : X.calm = true
  un : X.A.units + 200 < cLine
  blt : ∀ b : Blt, X.mg b.nm = none
  zp : X.mg "zip" = none
  en : X.mg "enumerate" = none
  ii : X.mg "isinstance" = none
  bl : X.mg "bool" = none
  tk : Takes X S.W
  gc : ∀ n y, C.gls[n]? = some y → (∀ d, S.M.gl n = some d → isDct d = false → ∃ v u, X.mg y = some u ∧ RelV v u ∧ ∀ H Z, Rp S.K H Z v d) ∧
    ∀ kvs, S.M.gl n = some (.dict kvs) → ∃ a, X.mg y = some (.ref a) ∧ ∀ w d, dVal kvs (.inr w) = some d → ∃ v, KDct X.K X.w a w v ∧ ∀ H Z, Rp S.K H Z v d
  rai : ∀ c y, C.exn[c]? = some y → ∃ A, X.mg y = some (.ref A) ∧ PySem.W.keepIn X.K (.ref A) = true ∧ (C.exp.contains c = false → PySem.W.excIn X.K A [.type "ValueError", .type "Exception", .type "BaseException", .type "object"] "ValueError.__new__" = true) ∧ PySem.W.subIn X.K (.ref A) (.type "BaseException") = some true ∧ PySem.W.typeIn X.K (.ref A) = some (.type "type") ∧ (∀ H Z, S.XR c none (.ref A) none H Z) ∧
    ∀ c' p cls d H Z, S.XR c' p cls d H Z → PySem.W.exmOne X.K cls (.ref A) = some (c' == c)
  rm : Room 2 X.A
  rap : ∀ (c : Nat) (y : Str), C.exn[c]? = some y → C.exp.contains c = true → ∃ (A fI : Addr) (fd : FuncData), X.mg y = some (.ref A) ∧ OexC X.K A ∧ XfC X.K A ∧ PySem.W.findIn X.K (.ref A) "place" = some none ∧ PySem.W.findIn X.K (.ref A) "__init__" = some (some (.ref fI)) ∧ PySem.W.typeIn X.K (.ref fI) = some (.type "function") ∧
    FnOk X.prog X.w X.K X.mg X.base (L2.CX X.prog X.w) 1 fI fd ["self", "place"] (spI A) ∧ Binds X.K fd ["self", "place"] [] ∧ (∀ (H : Hp) (Z : Addr → Prop) (dd : Addr) (v : V) (dv : D), H dd = some (.xd [("place", v)]) → Z dd → Rp S.K H Z v dv → S.XR c (some dv) (.ref A) (some dd) H Z) ∧
    ∀ p cls d H Z, S.XR c p cls d H Z → cls = .ref A ∧ ∀ dv, p = some dv → ∃ dd v, d = some dd ∧ H dd = some (.xd [("place", v)]) ∧ Z dd ∧ Rp S.K H Z v dv
  calls : ∀ f y, C.fns[f]? = some y → ∃ np k fa fd ps, (∀ ss, S.M.call f ss ≠ .no → ss.length = np) ∧ FnOk X.prog X.w X.K X.mg X.base (L2.CX X.prog X.w) k fa fd ps (spF X.K S.XR np (S.M.call f)) ∧ Room k X.A ∧ X.mg y = some (.ref fa) ∧ PySem.W.keepIn X.K (.ref fa) = true ∧ Binds X.K fd ps []
def Sx.blk (S : Sx) : Sx := { S with W := fun _ _ _ _ => False }
theorem Cn.blk {X : Cx} {C : Ck} {S : Sx} (c : Cn X C S) (s : Shared) (H : Hp) (scope : Scope) (A : Addr) (cl : List (Str × Addr)) (fp : List Addr) : Cn (X.blk s H scope (compEnvC scope cl A X.env) fp) (blkCk C scope) S.blk where
  K := c.K
  N := c.N
  nd := c.nd
  sc := by
    show relabel scope X.env = relS scope C.sc
    rw [← c.sc]
    rfl
  fn := fun x h => h
  calm := c.calm
  un := c.un
  blt := c.blt
  zp := c.zp
  en := c.en
  ii := c.ii
  bl := c.bl
  tk := takes0
  gc := c.gc
  rai := c.rai
  rm := c.rm
  rap := c.rap
  calls := c.calls
theorem Cn.gl {X : Cx} {C : Ck} {S : Sx} (c : Cn X C S) {y : Str} (h : glB C.sc y = true) : Gl X y ∧ (y == ("__debug__" : Str)) = false := by
  unfold glB at h
  simp only [Bool.and_eq_true, Bool.not_eq_true'] at h
  refine ⟨?_, h.2⟩
  show X.env.scope.names.lookup y = some .globalImplicit
  rw [c.sc]
  have := h.1
  split at this
  · assumption
  · cases this
theorem Cn.vis {X : Cx} {C : Ck} {S : Sx} (c : Cn X C S) {y : Str} (h : visB C.sc y = true) : Vis X.env.scope y := by
  unfold visB at h
  rw [c.sc]
  split at h <;> first | exact .inl (by assumption) | exact .inr (.inl (by assumption)) | exact .inr (.inr (by assumption)) | cases h

theorem ownN_snd {C : Ck} (own : List Nat) : (ownN C own).map (·.2) = own := by
  unfold ownN
  rw [List.map_map]
  exact List.map_id' own

theorem opEq_eq {a b : Operator} (h : opEq a b = true) : a = b := by
  unfold opEq at h
  cases a <;> cases b <;> first | rfl | cases h
theorem cmpEq_eq {a b : CmpOp} (h : cmpEq a b = true) : a = b := by
  unfold cmpEq at h
  cases a <;> cases b <;> first | rfl | cases h
end Rf
end

-- text RfU
section
set_option Elab.async false
set_option linter.all false
set_option maxRecDepth 100000
set_option maxHeartbeats 1000000
/-! RfU: dict comprehensions. -/
namespace Rf
open PySem PySem.Spec PyProof.Rows L2
theorem KvR.grow {K : PySem.W.Frag} {H H' : Hp} {Z Z' : Addr → Prop} {ws : List (Key × V)} {kvs : List (D × D)} (r : KvR K H Z ws kvs) (g : Grow H Z H' Z') : KvR K H' Z' ws kvs := r.mono g.mono fun a o _ e => (g.keep a o e).1
theorem KvR.step {K : PySem.W.Frag} {H H' : Hp} {Z Z' O O' : Addr → Prop} {ws : List (Key × V)} {kvs : List (D × D)} (r : KvR K H Z ws kvs) (s : Step H Z O H' Z' O') (hzo : ∀ a, Z a → ¬ O a) : KvR K H' Z' ws kvs := r.mono s.mono fun a o z e => (s.keep a o e (hzo a z)).1
section
variable {X : Cx} {S : Sx} (hK : S.K = X.K)
include hK
/-- the state between two turns of a comprehension -/
structure DcP (S : Sx) (own : List Nat) (σ : L2.St) (H1 : Hp) (Z1 B : Addr → Prop) (e1 : En) (A : Addr) (H : Hp) (Z : Addr → Prop) (env : En) (fp : Nat → List Addr) (acc : List (Key × V)) (accD : List (D × D)) : Prop where
  st : Step H1 Z1 B H Z (Owr fp [A])
  kp : Kp (wipeE e1 own) (wipeE env own)
  rel : Rel S.K H Z (wipeE env own) (L2.wipe σ own) fp
  hD : H A = some (.dK acc)
  ra : KvR S.K H Z acc accD
  nz : ¬ Z A
  no : ¬ Ow fp A
/-- amid a turn -/
structure DcM (S : Sx) (own : List Nat) (H1 : Hp) (Z1 B : Addr → Prop) (e1 : En) (A : Addr) (σ2 : L2.St) (H : Hp) (Z : Addr → Prop) (env : En) (fp : Nat → List Addr) (acc : List (Key × V)) (accD : List (D × D)) : Prop where
  st : Step H1 Z1 B H Z (Owr fp [A])
  kp : Kp (wipeE e1 own) (wipeE env own)
  rel : Rel S.K H Z env σ2 fp
  hD : H A = some (.dK acc)
  ra : KvR S.K H Z acc accD
  nz : ¬ Z A
  no : ¬ Ow fp A
omit hK in
theorem DcM.wipe {own : List Nat} {σ σ2 : L2.St} {H1 H : Hp} {Z1 B Z : Addr → Prop} {e1 env : En} {A : Addr} {fp : Nat → List Addr} {acc : List (Key × V)} {accD : List (D × D)} (ew : L2.wipe σ2 own = L2.wipe σ own) (m : DcM S own H1 Z1 B e1 A σ2 H Z env fp acc accD) :
    DcP S own σ H1 Z1 B e1 A H Z env (fpW fp own) acc accD where
  st := m.st.weak (fun _ h => h) fun x o => o.elim (fun o => by obtain ⟨j, _, hj⟩ := fpW_ow o; exact .inl (.inl ⟨j, hj⟩)) fun o => .inl (.inr o)
  kp := m.kp
  rel := by
    have := m.rel.wipe own
    rw [ew] at this
    exact this
  hD := m.hD
  ra := m.ra
  nz := m.nz
  no := fun o => by
    obtain ⟨j, _, hj⟩ := fpW_ow o
    exact m.no ⟨j, hj⟩
/-- the target and the test of a turn -/
theorem dc_tgt {t : Tg} {c : Ot} {own : List Nat} {S' : Sx} (hS : S'.K = S.K) (hM : S'.M = S.M) (hown : ∀ i ∈ tgs t, i ∈ own) {σ : L2.St} {H1 H H' : Hp} {Z1 B Z Z' : Addr → Prop} {e1 env e2 e3 : En} {A : Addr} {fp : Nat → List Addr} {acc : List (Key × V)} {accD : List (D × D)} {d : D} {x : V} {k : Bool}
    (P : DcP S own σ H1 Z1 B e1 A H Z env fp acc accD) (g : Grow H Z H' Z') (zk : Zok H' Z') (hr : Rp S.K H' Z' x d) (he2 : asgD S.M t d (wipeE env own) = some e2) (q3 : evOt S.M c e2 = .ok (k, e3)) {F : L2.St → Hp → Prop} {Nx : Hp → Prop}
    (cont : ∀ σ2 H3 Z3 fp3, L2.wipe σ2 own = L2.wipe σ own → DcM S own H1 Z1 B e1 A σ2 H3 Z3 e3 fp3 acc accD → if k = true then F σ2 H3 else Nx H3) :
    rdG S' t x (L2.wipe σ own) H' fun σ2 H2 => L2.wipe σ2 own = L2.wipe σ own ∧ rdOt S' c σ2 H2 fun b H3 => if b = true then F σ2 H3 else Nx H3 := by
  refine ⟨Z', wipeE env own, fp, d, e2, by rw [hS]; exact P.rel.grow g zk, by rw [hS]; exact hr, by rw [hM]; exact he2, fun σ2 fp2 rel2 o2 c2 => ?_⟩
  rw [hS] at rel2
  have ew : L2.wipe σ2 own = L2.wipe σ own := by
    have e1 : L2.wipe σ2 own = L2.wipe (L2.wipe σ own) own := wipe_eq c2.len fun i hi => c2.off i fun m => hi (hown i m)
    have e2 : L2.wipe (L2.wipe σ own) own = L2.wipe σ own := wipe_eq (wipe_length _ _) fun i hi => wipe_out hi
    rw [e1, e2]
  refine ⟨ew, ?_⟩
  have kp2 : Kp (wipeE env own) e2 := ⟨by rw [rel2.len, c2.len, ← P.rel.len], fun k hk => ?_⟩
  rotate_left
  · exact (asgD_kp' he2).2 k hk
  have sA : Step H1 Z1 B H' Z' (Owr fp2 [A]) := P.st.trans (g.step.weak (fun _ h => h) fun x o => .inl (o.elim (fun o => .inl (o2 x o)) fun o => .inr o))
  have hD' : H' A = some (.dK acc) := (g.keep A _ P.hD).1
  have nz' : ¬ Z' A := fun z => P.nz ((g.keep A _ P.hD).2 z)
  have no' : ¬ Ow fp2 A := fun o => P.no (o2 A o)
  have ra' := P.ra.grow g
  refine ⟨Z', e2, fp2, by rw [hS]; exact rel2, ?_⟩
  rw [hM, q3]
  intro b H3 Z3 fp3 fr3 st3 kp3 rel3 t3 ap3
  obtain ⟨rfl, rfl⟩ := t3
  rw [hS] at rel3
  have st3' : Step H' Z' (Ow fp2) H3 Z3 (Owr fp3 []) := st3.weak (fun _ h => h.elim (fun h => h) fun h => by simp at h) fun _ h => .inl h
  have sB : Step H1 Z1 B H3 Z3 (Owr fp3 [A]) := sA.trans (by simpa using st3'.more (fx := [A]))
  have kD3 := st3'.keep A _ hD' no'
  have nz3 : ¬ Z3 A := fun z => nz' (kD3.2 z)
  have no3 : ¬ Ow fp3 A := fun o => (st3'.new A (.inl o)).elim no' fun e => by rw [hD'] at e; cases e
  refine cont σ2 H3 Z3 fp3 ew ⟨sB, ?_, rel3, kD3.1, ra'.step st3' rel2.zo, nz3, no3⟩
  refine P.kp.trans ⟨by rw [wipeE_length, kp3.1, kp2.1], fun k hk => ?_⟩
  have h2 := kp3.2 k (kp2.2 k hk)
  rw [slot_wipeE] at hk ⊢
  split at hk
  · cases hk
  · rename_i hn; rw [if_neg hn]; exact h2
/-- the end of a comprehension -/
theorem dc_end {own : List Nat} {σ : L2.St} {H1 : Hp} {Z1 : Addr → Prop} {e1 e6 : En} {fp1 : Nat → List Addr} {A : Addr} {acc6 : List (D × D)} {Q : VK} {H : Hp} {Z : Addr → Prop} {fp : Nat → List Addr} {acc : List (Key × V)} (rel1 : Rel S.K H1 Z1 e1 σ fp1) (nA : H1 A = none)
    (h : Po S σ H1 Z1 e1 fp1 ([] ++ []) (tE S σ) Q (.ok (.td acc6, backE e6 e1 own))) (P : DcP S own σ H1 Z1 (Ow (fpW fp1 own)) e1 A H Z e6 fp acc acc6) : Q (.ref A) H := by
  have zoW : ∀ a, Z1 a → ¬ Ow (fpW fp1 own) a := fun a z o => by
    obtain ⟨j, _, hj⟩ := fpW_ow o
    exact rel1.zo a z ⟨j, hj⟩
  have hl : e6.length = e1.length := by have := P.kp.1; rw [wipeE_length, wipeE_length] at this; exact this
  refine h (.ref A) H Z (fun j => if j ∈ own then fp1 j else fp j) [A] (P.st.weak (fun x o => by obtain ⟨j, _, hj⟩ := fpW_ow o; exact .inl ⟨j, hj⟩) fun x o => ?_) ⟨by rw [backE_length]; exact hl, fun k hk => ?_⟩ ⟨fun k s hs => ?_, fun k hk => ?_, fun j k a h1 h2 => ?_, by rw [backE_length, hl]; exact rel1.len, P.rel.zs⟩ ⟨A, acc, rfl, rfl, P.hD, P.ra, P.nz⟩ fun x hx o => ?_
  · rcases o with ⟨j, hj⟩ | o
    · change x ∈ (if j ∈ own then fp1 j else fp j) at hj
      split at hj
      · exact .inr (.inl (.inl ⟨j, hj⟩))
      · exact .inl (.inl ⟨j, hj⟩)
    · exact .inl (.inr o)
  · rw [slot_backE hl]
    by_cases hm : k ∈ own
    · rw [if_pos hm]; exact hk
    · rw [if_neg hm]
      have h2 := P.kp.2 k (by rw [slot_wipeE, if_neg hm]; exact hk)
      rw [slot_wipeE, if_neg hm] at h2
      exact h2
  · rw [slot_backE hl] at hs
    by_cases hm : k ∈ own
    · rw [if_pos hm] at hs
      obtain ⟨v, g1, g2⟩ := rel1.at_ k s hs
      refine ⟨v, g1, ?_⟩
      show SvR _ _ _ _ _ (if k ∈ own then fp1 k else fp k)
      rw [if_pos hm]
      refine g2.step P.st zoW fun a ha o => ?_
      obtain ⟨j, hj, hj2⟩ := fpW_ow o
      exact hj (rel1.dj k j a ha hj2 ▸ hm)
    · rw [if_neg hm] at hs
      obtain ⟨v, g1, g2⟩ := P.rel.at_ k s (by rw [slot_wipeE, if_neg hm]; exact hs)
      rw [wipe_out hm] at g1
      refine ⟨v, g1, ?_⟩
      show SvR _ _ _ _ _ (if k ∈ own then fp1 k else fp k)
      rw [if_neg hm]
      exact g2
  · rw [slot_backE hl] at hk
    show (if k ∈ own then fp1 k else fp k) = []
    by_cases hm : k ∈ own
    · rw [if_pos hm] at hk ⊢
      exact rel1.no_ k hk
    · rw [if_neg hm] at hk ⊢
      exact P.rel.no_ k (by rw [slot_wipeE, if_neg hm]; exact hk)
  · change a ∈ (if j ∈ own then fp1 j else fp j) at h1
    change a ∈ (if k ∈ own then fp1 k else fp k) at h2
    have cross : ∀ {j k : Nat}, j ∈ own → a ∈ fp1 j → a ∈ fp k → False := fun {j k} hj m1 m2 => by
      rcases P.st.new a (.inl ⟨k, m2⟩) with o | o
      · obtain ⟨i, hi, hi2⟩ := fpW_ow o
        exact hi (rel1.dj j i a m1 hi2 ▸ hj)
      · exact (rel1.owned ⟨j, m1⟩).2 o
    split at h1
    · rename_i hj
      split at h2
      · exact rel1.dj j k a h1 h2
      · exact (cross hj h1 h2).elim
    · split at h2
      · rename_i hk
        exact (cross hk h2 h1).elim
      · exact P.rel.dj j k a h1 h2
  · simp at hx
    subst hx
    obtain ⟨j, hj⟩ := o
    change x ∈ (if j ∈ own then fp1 j else fp j) at hj
    split at hj
    · exact (rel1.owned ⟨j, hj⟩).2 nA
    · exact P.no ⟨j, hj⟩
/-- the start of a comprehension -/
theorem dc_start {own : List Nat} {σ : L2.St} {H1 : Hp} {Z1 : Addr → Prop} {e1 : En} {fp1 : Nat → List Addr} {A : Addr} (rel1 : Rel S.K H1 Z1 e1 σ fp1) (nA : H1 A = none) :
    DcP S own σ H1 Z1 (Ow (fpW fp1 own)) e1 A (upd H1 A (.dK [])) Z1 (wipeE e1 own) (fpW fp1 own) [] [] := by
  refine ⟨(Grow.new nA).step.weak (fun _ h => h) fun x o => o.elim (fun o => .inl o) fun o => .inr (.inr (by simp at o; rw [o]; exact nA)), ?_, ?_, upd_same, .nil, fun z => rel1.zs A z nA, fun o => ?_⟩
  · refine ⟨by rw [wipeE_length, wipeE_length], fun i hi => ?_⟩
    rw [slot_wipeE] at hi ⊢
    split at hi
    · cases hi
    · rename_i hn
      rw [if_neg hn, slot_wipeE, if_neg hn]
      exact hi
  · have r0 := (rel1.wipe own).grow (Grow.new (p := A) (o := .dK []) nA) rel1.zs.upd
    have r1 := r0.wipe own
    have ew : L2.wipe (L2.wipe σ own) own = L2.wipe σ own := wipe_eq (wipe_length _ _) fun i hi => wipe_out hi
    have ef : fpW (fpW fp1 own) own = fpW fp1 own := by
      funext j
      unfold fpW
      split <;> rfl
    rw [ew, ef] at r1
    exact r1
  · obtain ⟨j, _, hj⟩ := fpW_ow o
    exact (rel1.owned ⟨j, hj⟩).2 nA
theorem loopD_noexc {f : D → List (D × D) → En → R (List (D × D) × En)} : ∀ {xs : List D} {acc : List (D × D)} {env : En} {c : Nat} {p : Option D} {e : En}, loopD f xs acc env ≠ .exc c p e
  | [], _, _, _, _, _ => fun h => nomatch h
  | x :: xs, acc, env, c, p, e => fun h => by
    unfold loopD at h
    cases q : f x acc env with
    | ok y => rw [q] at h; exact loopD_noexc h
    | exc => rw [q] at h; cases h
    | no => rw [q] at h; cases h
omit hK in
theorem evE_dcp {M : Mach} {k v : E} {t : Tg} {it : Itr} {c : Ot} {own : List Nat} {env : En} : evE M (.dcp k v t it c own) env = (evI M it env).bind fun (xs, e1) => (loopD (dcpF M k v t c own) xs [] (wipeE e1 own)).bind fun (acc, e6) => .ok (.td acc, backE e6 e1 own) := by
  rw [evE]; rfl
omit hK in
/-- name = {..} on one line, the name a local -/
theorem ps_setDc {i : Nat} {y : Str} {py : Pos} {kx vx tg iter : Expr} {ifs : List Expr} {scope : Scope} {own : List (Str × Nat)} {pos spos : Pos} {wi : TI} {g : TG} {tt : TT} {tk tv : TE} (hc : X.calm = true) (hN : X.N.Nodup) (hy : X.N[i]? = some y) (hyl : X.env.scope.names.lookup y = some .local)
    (hsw : swapsWith (.DictComp kx vx [⟨tg, iter, ifs, 0⟩] scope pos) (some (.Name y py)) spos.line X.env = pure true) (hi : PI X tg iter wi) (ok : BlkOk X.N X.env.scope scope own)
    (hg : ∀ (s : Shared) (H : Hp) (C : Addr) (cl : List (Str × Addr)) (fp : List Addr), PG (X.blk s H scope (compEnvC scope cl C X.env) fp) tg g) (ht : ∀ (s : Shared) (H : Hp) (C : Addr) (cl : List (Str × Addr)) (fp : List Addr), PTs (X.blk s H scope (compEnvC scope cl C X.env) fp) ifs tt)
    (hk : ∀ (s : Shared) (H : Hp) (C : Addr) (cl : List (Str × Addr)) (fp : List Addr), PE (X.blk s H scope (compEnvC scope cl C X.env) fp) kx tk) (he : ∀ (s : Shared) (H : Hp) (C : Addr) (cl : List (Str × Addr)) (fp : List Addr), PE (X.blk s H scope (compEnvC scope cl C X.env) fp) vx tv)
    (hs : ∀ x, foldedSetIterable iter X.env x = pure x) : PS X (.Assign [.Name y py] (.DictComp kx vx [⟨tg, iter, ifs, 0⟩] scope pos) spos) (tAsg (tDc wi g tt tk tv (own.map (·.2))) (gName i)) := by
  refine ⟨fun pins s σ H D I h => ?_⟩
  rw [exec_Assign_Name_used _ _ _ _ hsw]
  refine wpAny_bind (wpAny_standAt (wpAny_bind ?_))
  show wpAny _ X.A (do let _ ← comprehension (.DictComp kx vx [⟨tg, iter, ifs, 0⟩] scope pos) scope X.env (firstIterPos [⟨tg, iter, ifs, 0⟩] pos) newDict false (eval iter X.env) (some (assign (.Name y py) X.env))) _ _ s
  have h : tDc wi g tt tk tv (own.map (·.2)) σ H (fun x H1 => gName i x σ H1 D.nx) := h
  refine wpAny_bind (thn (dc_core (Qf := fun _ s' => SP X pins D .next s') hc hN I hi ok hg ht hk he hs h fun L C s' m H' I' q hn f => ?_) fun _ s' hq => wpAny_pure (wpAny_pure hq))
  show wpAny _ _ (assign (.Name y py) X.env (.ref L)) _ _ _
  refine wpAny_assign_Name (store_ok2 (v := V.ref L) I' hN hy (.inl hyl) rfl (fun s2 I2 ⟨a, sb, ha⟩ => ?_) (.inr hyl))
  obtain ⟨f0, f1, f2, f3, f4, f5⟩ := f
  have hne : C ≠ a := ha.elim (fun z => by rw [z]; exact f1) fun z e => f4 y a z e.symm
  exact ⟨m, hn.sameBut sb hne, fun h3 sb3 => ⟨_, H', I2.turned (t' := s2.toks) (fun b o hb e => (sb3.2 b hb).trans e) f0 f1 f3 f4 f5, q⟩⟩
omit hK in
theorem sw_trueD {kx vx : Expr} {gs : List Comprehension} {scope : Scope} {pos py : Pos} {y : Str} {l : Nat} {env : Env} (hk : env.scope.kind = .function) (hy : env.scope.names.lookup y = some .local) (hl : (py.line == pos.line) = true)
    (ha : (scope.names.any fun (n, k) => n == y && (k == .local || k == .cell)) = false) : swapsWith (.DictComp kx vx gs scope pos) (some (.Name y py)) l env = pure true := by
  have ky : env.kindOf y = some .local := hy
  have hb : env.blockKind = .function := by unfold Env.blockKind; rw [hk]; rfl
  unfold swapsWith
  simp only [hb, ky, ha, Expr.pos, hl]
  rfl
/-- a value of a turn -/
theorem dc_val {e : E} {own : List Nat} {S' : Sx} (hS : S'.K = S.K) (hM : S'.M = S.M) {σ2 : L2.St} {H1 H3 : Hp} {Z1 B Z3 : Addr → Prop} {e1 e3 e4 e5 : En} {A : Addr} {fp3 : Nat → List Addr} {acc : List (Key × V)} {accD : List (D × D)} {r : Rv} {d5 : D}
    (m : DcM S own H1 Z1 B e1 A σ2 H3 Z3 e3 fp3 acc accD) (q4 : evE S.M e e3 = .ok (r, e4)) (q5 : frz e4 r = some (d5, e5)) {Q : VK}
    (cont : ∀ y H5 Z5 fp5, DcM S own H1 Z1 B e1 A σ2 H5 Z5 e5 fp5 acc accD → Rp S.K H5 Z5 y d5 → Pers H3 Z3 H5 Z5 → Q y H5) : rdE S' e σ2 H3 Q := by
  refine ⟨Z3, e3, fp3, by rw [hS]; exact m.rel, ?_⟩
  rw [hM, q4]
  intro y H4 Z4 fp4 fr4 st4 kp4 rel4 t4 ap4
  rw [hS] at rel4
  have t4 : RvR S.K H4 Z4 e4 σ2 r y fr4 := by have := t4; unfold tE at this; rw [hS] at this; exact this
  obtain ⟨Z5, fp5, st5, kp5, rel5, hr5⟩ := frz_ok t4 rel4 ap4 q5
  have st4' : Step H3 Z3 (Ow fp3) H4 Z4 (Owr fp4 fr4) := st4.weak (fun _ h => h.elim (fun h => h) fun h => by simp at h) fun _ h => .inl h
  have kD4 := st4'.keep A _ m.hD m.no
  have nA4 : ¬ Owr fp4 fr4 A := fun o => (st4'.new A o).elim m.no fun e => by rw [m.hD] at e; cases e
  have kD5 := st5.keep A _ kD4.1 nA4
  have nz5 : ¬ Z5 A := fun z => m.nz (kD4.2 (kD5.2 z))
  have no5 : ¬ Ow fp5 A := fun o => (st5.new A o).elim nA4 fun e => by rw [kD4.1] at e; cases e
  have hz4 : ∀ a, Z4 a → ¬ Owr fp4 fr4 a := fun a z o => o.elim (rel4.zo a z) fun o => (RvR.owned t4 a o).1 z
  have ra4 := (m.ra.step st4' m.rel.zo).step st5 hz4
  refine cont y H4 Z5 fp5 ⟨?_, m.kp.trans (kp4.trans kp5).wipe, rel5, kD4.1, ra4, nz5, no5⟩ hr5 ((st4'.pers m.rel.zo).trans (st5.pers hz4))
  have s4 : Step H1 Z1 B H4 Z4 (Owr fp4 ([A] ++ fr4)) := m.st.trans st4'.more
  have s5 : Step H4 Z4 (Owr fp4 ([A] ++ fr4)) H4 Z5 (Owr fp5 [A]) := st5.weak (fun x o => o.elim .inl fun o => .inr (List.mem_append_right _ o)) fun x o => o.elim (fun o => .inl o) fun o => .inr (.inl (.inr (List.mem_append_left _ o)))
  exact s4.trans s5
theorem ok_dcp_core {k v : E} {t : Tg} {it : Itr} {c : Ot} {own : List Nat} {S' : Sx} (hS : S'.K = S.K) (hM : S'.M = S.M) (hown : ∀ i ∈ tgs t, i ∈ own) {σ : L2.St} {H : Hp} {Q : VK} (h : rdE S (.dcp k v t it c own) σ H Q) :
    tDc (rdI S it) (rdG S' t) (rdOt S' c) (rdE S' k) (rdE S' v) own σ H Q := by
  obtain ⟨Z, env, fp, rel, h⟩ := h
  rw [evE_dcp] at h
  refine ⟨Z, env, fp, rel, Po.seq h fun xs e1 J H1 Z1 fp1 fr1 st1 kp1 rel1 t1 ap1 h => ?_⟩
  intro A nA
  obtain ⟨⟨G, Y, wk, hG, hY⟩, rfl⟩ := t1
  dsimp only at h
  cases q : loopD (dcpF S.M k v t c own) xs [] (wipeE e1 own) with
  | no => rw [q] at h; exact h.elim
  | exc => exact absurd q (loopD_noexc hK)
  | ok x6 =>
  obtain ⟨acc6, e6⟩ := x6
  rw [q] at h
  have h : Po S σ H1 Z1 e1 fp1 ([] ++ []) (tE S σ) Q (.ok (.td acc6, backE e6 e1 own)) := h
  have zoW : ∀ a, Z1 a → ¬ Ow (fpW fp1 own) a := fun a z o => by
    obtain ⟨j, _, hj⟩ := fpW_ow o
    exact rel1.zo a z ⟨j, hj⟩
  refine in_it wk (Bd := fun x H' Nx => rdG S' t x (L2.wipe σ own) H' fun σ2 H2 => L2.wipe σ2 own = L2.wipe σ own ∧ rdOt S' c σ2 H2 fun b H3 => if b = true then rdE S' k σ2 H3 fun y H4 => rdE S' v σ2 H4 fun z H5 => ∃ kvs kk, y = kV kk ∧ H5 A = some (.dK kvs) ∧ kvs.length < sizeLine ∧ Nx (upd H5 A (.dK (putK kvs kk z))) else Nx H3)
    (fun i H => ∃ Z env fp acc accD, DcP S own σ H1 Z1 (Ow (fpW fp1 own)) e1 A H Z env fp acc accD ∧ loopD (dcpF S.M k v t c own) (xs.drop i) accD env = .ok (acc6, e6)) ?_ ?_ ?_ ?_
  · exact ⟨Z1, wipeE e1 own, fpW fp1 own, [], [], dc_start hK rel1 nA, q⟩
  · rintro i H _ ⟨Z, env, fp, acc, accD, P, _⟩
    exact hG H Z (P.st.pers zoW)
  · rintro i x H H' hi ⟨Z, env, fp, acc, accD, P, lp⟩ hy
    obtain ⟨d, Z', hd, g, zk, hr⟩ := hY i H Z x H' (P.st.pers zoW) P.rel.zs hi hy
    have hdrop : xs.drop i = d :: xs.drop (i + 1) := by
      obtain ⟨hlt, he⟩ := List.getElem?_eq_some_iff.mp hd
      rw [List.drop_eq_getElem_cons hlt, he]
    rw [hdrop] at lp
    unfold loopD at lp
    cases hv : dcpF S.M k v t c own d accD env with
    | no => rw [hv] at lp; cases lp
    | exc => rw [hv] at lp; cases lp
    | ok x7 =>
    obtain ⟨acc7, e7⟩ := x7
    rw [hv] at lp
    dsimp only [R.ld_ok] at lp
    unfold dcpF at hv
    cases he2 : asgD S.M t d (wipeE env own) with
    | none => rw [he2] at hv; cases hv
    | some e2 =>
    rw [he2] at hv
    dsimp only [R.opt_some, R.bind_ok] at hv
    cases q3 : evOt S.M c e2 with
    | no => rw [q3] at hv; cases hv
    | exc => rw [q3] at hv; cases hv
    | ok x3 =>
    obtain ⟨bb, e3⟩ := x3
    rw [q3] at hv
    dsimp only [R.bind_ok] at hv
    refine dc_tgt hK hS hM hown P g zk hr he2 q3 fun σ2 H3 Z3 fp3 ew m => ?_
    cases bb with
    | false =>
      rw [if_neg Bool.false_ne_true]
      simp only [Bool.false_eq_true, if_false] at hv
      cases hv
      exact ⟨_, _, _, _, _, m.wipe ew, lp⟩
    | true =>
      rw [if_pos rfl]
      simp only [if_true] at hv
      cases q4 : evE S.M k e3 with
      | no => rw [q4] at hv; cases hv
      | exc => rw [q4] at hv; cases hv
      | ok x4 =>
      obtain ⟨rk, e4⟩ := x4
      rw [q4] at hv
      dsimp only [R.bind_ok] at hv
      cases q5 : frz e4 rk with
      | none => rw [q5] at hv; cases hv
      | some x5 =>
      obtain ⟨dk, e5⟩ := x5
      rw [q5] at hv
      dsimp only [R.opt_some, R.bind_ok] at hv
      cases q6 : evE S.M v e5 with
      | no => rw [q6] at hv; cases hv
      | exc => rw [q6] at hv; cases hv
      | ok x6 =>
      obtain ⟨rv, e6'⟩ := x6
      rw [q6] at hv
      dsimp only [R.bind_ok] at hv
      cases q7 : frz e6' rv with
      | none => rw [q7] at hv; cases hv
      | some x7 =>
      obtain ⟨dv, e7'⟩ := x7
      rw [q7] at hv
      dsimp only [R.opt_some, R.bind_ok] at hv
      cases q8 : keyOf dk with
      | none => rw [q8] at hv; cases hv
      | some kk =>
      rw [q8] at hv
      dsimp only [R.opt_some, R.bind_ok] at hv
      split at hv
      · rename_i hsz
        cases hv
        refine dc_val hK hS hM m q4 q5 fun y H4 Z4 fp4 m4 hy4 _ => ?_
        refine dc_val hK hS hM m4 q6 q7 fun z H5 Z5 fp5 m5 hz5 _ => ?_
        refine ⟨acc, kk, vw_key hy4.vw q8, m5.hD, ?_, Z5, e7, fpW fp5 own, putK acc kk z, dPut accD dk kk dv, DcM.wipe ew ⟨?_, m5.kp, m5.rel.other (o := .dK (putK acc kk z)) m5.nz m5.no, upd_same, ?_, m5.nz, m5.no⟩, lp⟩
        · rw [m5.ra.length]; exact sizeOk_le hsz
        · exact m5.st.trans ⟨fun _ h => h, fun x o e n => ⟨by rw [upd_ne fun q => n (.inr (by simp [q]))]; exact e, fun z => z⟩, fun _ h => .inl h⟩
        · exact (m5.ra.put q8 hy4.keyFit hz5).mono (fun _ h => h) fun a o z e => by rw [upd_ne fun q => m5.nz (by rw [← q]; exact z)]; exact e
      · cases hv
  · rintro H ⟨Z, env, fp, acc, accD, P, lp⟩
    rw [List.drop_length] at lp
    unfold loopD at lp
    cases lp
    exact dc_end hK rel1 nA h P
end
end Rf
end

-- text RfV
section
set_option Elab.async false
set_option linter.all false
set_option maxRecDepth 100000
set_option maxHeartbeats 1000000
/-! RfV: methods of texts; isinstance. -/
namespace Rf
open PySem PySem.Spec PyProof.Rows L2
def rMth (K : PySem.W.Frag) (m : Mth) : V → List V → Hp → VK → Prop := fun x xs H Q => ∃ Z a ds r, Zok H Z ∧ x = .str a ∧ VwAll K H Z xs ds ∧ mthD m a ds = some r ∧ PostR K H Z Q r
theorem strs_vw {K : PySem.W.Frag} {H : Hp} {Z : Addr → Prop} : ∀ {vs : List V} {ds : List D} {zs : List Str}, RpAll K H Z vs ds → strsOf ds = some zs → vs = zs.map V.str
  | _, _, zs, .nil, e => by cases e; rfl
  | _, _, zs, .cons (d := d) (ds := ds) h t, e => by
    cases d with
    | str z =>
      obtain ⟨ws, hw, rfl⟩ := Option.map_eq_some_iff.mp (show (strsOf ds).map (z :: ·) = some zs from e)
      cases h
      rw [strs_vw t hw]
      rfl
    | _ => cases e
theorem strR_fit {x : Str} {r : Rv} (h : strR x = some r) : r = .dat (.str x) ∧ StrFit x := by
  unfold strR at h
  split at h
  · rename_i hs
    cases h
    rw [Bool.and_eq_true] at hs
    exact ⟨rfl, sizeOk_le hs.1, hs.2⟩
  · cases h
theorem rp_strs {K : PySem.W.Frag} {H : Hp} {Z : Addr → Prop} : ∀ {zs : List Str}, (∀ z ∈ zs, StrFit z) → RpAll K H Z (zs.map V.str) (zs.map PyData.str)
  | [], _ => .nil
  | z :: zs, h => .cons (.str z (h z (by simp))) (rp_strs fun y hy => h y (by simp [hy]))
section
variable {X : Cx}
theorem mt_startD : MtR X "str.startswith" (rMth X.K .startswith) := by
  intro pins s σ H x xs v us Q I rx rs h
  obtain ⟨Z, a, ds, r, z, rfl, hv, e, q⟩ := h
  unfold mthD at e
  split at e <;> first | (cases e; done) | skip
  all_goals first
    | (rename_i hm; cases hm; done)
    | skip
  · cases hv with
    | cons h1 hn =>
      cases hn
      cases h1
      cases e
      exact mt_startswith pins s σ H _ _ v us Q I rx rs ⟨_, _, rfl, rfl, q.bl z⟩
theorem mt_endD : MtR X "str.endswith" (rMth X.K .endswith) := by
  intro pins s σ H x xs v us Q I rx rs h
  obtain ⟨Z, a, ds, r, z, rfl, hv, e, q⟩ := h
  unfold mthD at e
  split at e <;> first | (cases e; done) | skip
  all_goals first
    | (rename_i hm; cases hm; done)
    | skip
  · cases hv with
    | cons h1 hn =>
      cases hn
      cases h1
      cases e
      exact mt_endswith pins s σ H _ _ v us Q I rx rs ⟨_, _, rfl, rfl, q.bl z⟩
theorem mt_indexD : MtR X "str.index" (rMth X.K .index) := by
  intro pins s σ H x xs v us Q I rx rs h
  obtain ⟨Z, a, ds, r, z, rfl, hv, e, q⟩ := h
  unfold mthD at e
  split at e <;> first | (cases e; done) | skip
  all_goals first
    | (rename_i hm; cases hm; done)
    | skip
  · cases hv with
    | cons h1 hn =>
      cases hn
      cases h1
      obtain ⟨k, hk, rfl⟩ := Option.map_eq_some_iff.mp e
      unfold Txt.index0 at hk
      obtain ⟨rest, hr⟩ := List.head?_eq_some_iff.mp hk
      exact mt_sindex pins s σ H _ _ v us Q I rx rs ⟨_, _, k, rest, rfl, rfl, hr, q.int z⟩
theorem join_go {a : Str} {xs : List D} {r : Rv} (e : joinR a xs = some r) : ∃ zs, strsOf xs = some zs ∧ (zs.map (·.length)).sum + zs.length * a.length ≤ 16777216 ∧ r = .dat (.str (Txt.join a zs)) ∧ StrFit (Txt.join a zs) := by
  obtain ⟨zs, hz, e⟩ := Option.bind_eq_some_iff.mp (show ((strsOf xs).bind _) = some r from e)
  split at e
  · rename_i hs
    obtain ⟨rfl, f⟩ := strR_fit e
    exact ⟨zs, hz, of_decide_eq_true hs, rfl, f⟩
  · cases e
theorem mt_joinD : MtR X "str.join" (rMth X.K .join) := by
  intro pins s σ H x xs v us Q I rx rs h
  obtain ⟨Z, a, ds, r, z, rfl, hv, e, q⟩ := h
  unfold mthD at e
  split at e <;> first | (cases e; done) | skip
  all_goals first
    | (rename_i hm; cases hm; done)
    | skip
  · cases hv with
    | cons h1 hn =>
      cases hn
      obtain ⟨zs, hz, hs, rfl, f⟩ := join_go e
      obtain ⟨p, ys, rfl, hp, ra⟩ := h1
      have := strs_vw ra hz
      subst this
      exact mt_join pins s σ H _ _ v us Q I rx rs ⟨_, p, zs, rfl, rfl, .inl hp, hs, q.str z f⟩
  · cases hv with
    | cons h1 hn =>
      cases hn
      obtain ⟨zs, hz, hs, rfl, f⟩ := join_go e
      obtain ⟨p, ys, rfl, hp, ra⟩ := h1.tup
      have := strs_vw ra hz
      subst this
      exact mt_join pins s σ H _ _ v us Q I rx rs ⟨_, p, zs, rfl, rfl, .inr hp, hs, q.str z f⟩
theorem mt_splitD : MtR X "str.split" (rMth X.K .split) := by
  intro pins s σ H x xs v us Q I rx rs h
  obtain ⟨Z, a, ds, r, z, rfl, hv, e, q⟩ := h
  unfold mthD at e
  split at e <;> first | (cases e; done) | skip
  all_goals first
    | (rename_i hm; cases hm; done)
    | skip
  · cases hv with
    | cons h1 hn =>
      cases hn
      cases h1
      split at e
      · rename_i hs
        cases e
        simp only [Bool.and_eq_true, bne_iff_ne, ne_eq] at hs
        refine mt_split pins s σ H _ _ v us Q I rx rs ⟨_, _, rfl, rfl, by simpa using hs.1.1, sizeOk_le hs.1.2, ?_⟩
        refine q.lst z (rp_strs fun y hy => ?_)
        have := List.all_eq_true.mp hs.2 y hy
        rw [Bool.and_eq_true] at this
        exact ⟨sizeOk_le this.1, this.2⟩
      · cases e
theorem recv_base {y : Expr} (h : recvB y = true) (nm : Str) (env : Env) : attributeBase y nm env (eval y env) = eval y env := by
  cases y with
  | Call f xs kws p =>
    cases xs with
    | nil =>
      cases kws with
      | nil => simp [recvB] at h
      | cons _ _ => cases f <;> rfl
    | cons _ _ => cases f <;> rfl
  | _ => rfl
theorem mthD_kind {m : Mth} {a : Str} {ds : List D} {r : Rv} (h : mthD m a ds = some r) : okRv r := by
  unfold mthD at h
  split at h
  · cases h; trivial
  · cases h; trivial
  · obtain ⟨k, _, rfl⟩ := Option.map_eq_some_iff.mp h; trivial
  · obtain ⟨zs, _, _, rfl, _⟩ := join_go h; trivial
  · obtain ⟨zs, _, _, rfl, _⟩ := join_go h; trivial
  · split at h
    · cases h; trivial
    · cases h
  · cases h
end
section
variable {X : Cx} {S : Sx} (hK : S.K = X.K)
include hK
theorem ok_mth_core {m : Mth} {o : E} {es : Es} {σ : L2.St} {H : Hp} {Q : VK} (h : rdE S (.mth m o es) σ H Q) : tBM X.K "str" (rMth X.K m) (rdE S o) (rdA S es) σ H Q := by
  obtain ⟨Z, env, fp, rel, h⟩ := h
  unfold evE at h
  refine ⟨Z, env, fp, rel, Po.seq h fun ro e1 x H1 Z1 fp1 fr1 st1 kp1 rel1 t1 ap1 h => ?_⟩
  dsimp only at h
  split at h
  · rename_i a ha
    have hx : x = .str a := by
      have := t1.vw rel1 ha
      cases this
      rfl
    subst hx
    refine ⟨rfl, Z1, e1, fp1, rel1, Po.seq (h.adv (fx1 := []) ?_ .refl) fun rs e2 vs H2 Z2 fp2 fr2 st2 kp2 rel2 t2 ap2 h => ?_⟩
    · exact ⟨fun _ h => h, fun _ _ e _ => ⟨e, fun z => z⟩, fun _ h => .inl (h.elim .inl fun h => by simp at h)⟩
    obtain ⟨ds, eds, h⟩ := h.opt
    obtain ⟨r, er, h⟩ := h.opt
    have hv := RvAll.vwAll hK rel2 t2 eds
    rw [← hK]
    exact ⟨Z2, a, ds, r, rel2.zs, rfl, hv, er, h.post rel2 (mthD_kind er)⟩
  · exact h.elim
omit hK in
theorem call_isiD (t : Ty) : CallR X (.builtin "isinstance") (fun xs H Q => ∃ Z x d, Zok H Z ∧ xs = [x, .ty t.tn] ∧ Vw X.K H Z x d ∧ isDct d = false ∧ Q (.bl (isT t d)) H) := by
  intro pins s σ H xs us Q I r h
  obtain ⟨Z, x, d, z, rfl, hv, nd, q⟩ := h
  obtain ⟨u1, u2, rfl, r1, r2⟩ := vals2 r
  cases (show u2 = Value.type t.tn from r2)
  obtain ⟨as, rd⟩ := Dp.reads I _ x u1 (hv.dp nd) r1
  have fin : ∀ b tk, b = isT t d → EP X pins σ Q (.bool b) { s with toks := tk } := fun b tk e => ⟨.bl b, H, I.tok tk, rfl, by rw [e]; exact q⟩
  cases t with
  | int => exact PySem.W.isinstance_int_data rd fun tk _ => fin _ tk (by cases d <;> rfl)
  | bool => exact PySem.W.isinstance_bool_data rd fun tk _ => fin _ tk (by cases d <;> rfl)
  | str => exact PySem.W.isinstance_str_data rd fun tk _ => fin _ tk (by cases d <;> rfl)
  | tuple => exact PySem.W.isinstance_tuple_data rd fun tk _ => fin _ tk (by cases d <;> rfl)
  | list => exact PySem.W.isinstance_list_data rd fun tk _ => fin _ tk (by cases d <;> rfl)
omit hK in
theorem pe_tyn {t : Ty} {p : Pos} (hg : Gl X t.nm) (hm : X.mg t.nm = none) (hd : (t.nm == ("__debug__" : Str)) = false) : PE X (.Name t.nm p) (tC (.ty t.tn)) :=
  ⟨fun pins s σ H Q I h => ld_blt I hg hm (by cases t <;> rfl) ⟨.ty t.tn, H, I, rfl, h⟩ (by cases t <;> decide) hd⟩
theorem ok_isi {a : E} {t : Ty} {z : Expr} {p p2 pos : Pos} (hg : Gl X "isinstance") (hm : X.mg "isinstance" = none) (hg2 : Gl X t.nm) (hm2 : X.mg t.nm = none) (hd2 : (t.nm == ("__debug__" : Str)) = false) (h : PE X z (rdE S a))
    (hs : starEach [z, .Name t.nm p2] X.env = (false, eval z X.env) :: starEach [.Name t.nm p2] X.env) : PE X (.Call (.Name "isinstance" p) [z, .Name t.nm p2] [] pos) (rdE S (.isi a t)) := by
  refine (pe_callB (call_isiD (X := X) t) hg hm rfl (pa_cons h (pa_cons (pe_tyn hg2 hm2 hd2) pa_nil) hs) (by decide) (by decide) hs rfl).imp fun σ H Q h => ?_
  obtain ⟨Z, env, fp, rel, h⟩ := h
  unfold evE at h
  refine ⟨Z, env, fp, rel, Po.seq h fun ro e1 x H1 Z1 fp1 fr1 st1 kp1 rel1 t1 ap1 h => ?_⟩
  obtain ⟨d, ed, h⟩ := h.opt
  have hv := t1.vw rel1 ed
  rw [hK] at hv
  split at h
  · exact h.elim
  · rename_i nd
    exact ⟨Z1, x, d, rel1.zs, rfl, hv, by simpa using nd, (h.post rel1 trivial).bl rel1.zs⟩
theorem ok_dnew {pos : Pos} : PE X (.Dict [] [] pos) (rdE S .dnew) := by
  refine pe_dnewK.imp fun σ H Q h => ?_
  obtain ⟨Z, env, fp, rel, h⟩ := h
  unfold evE at h
  exact fun p n => h.now rel (Grow.new n) rel.zs.upd (fr := [p]) (by simpa using n) ⟨p, [], rfl, rfl, upd_same, .nil, fun z => rel.zs p z n⟩
omit hK in
theorem rv_nz {K : PySem.W.Frag} {H : Hp} {Z : Addr → Prop} {env : En} {σ : L2.St} {r : Rv} {v : V} {fr : List Addr} (q : RvR K H Z env σ r v fr) : ∀ a ∈ fr, ¬ Z a := by
  intro a ha
  cases r with
  | dat _ => rw [q.2] at ha; simp at ha
  | tl _ => obtain ⟨b, _, _, rfl, _, _, n⟩ := q; simp at ha; subst ha; exact n
  | td _ => obtain ⟨b, _, _, rfl, _, _, n⟩ := q; simp at ha; subst ha; exact n
  | tt _ => obtain ⟨b, _, _, rfl, _, _, n⟩ := q; simp at ha; subst ha; exact n
  | plc _ => obtain ⟨_, _, rfl⟩ := q; simp at ha
theorem ok_dgx_core {d k y : E} {σ : L2.St} {H : Hp} {Q : VK} (h : rdE S (.dgx d k y) σ H Q) : tDGet2 (rdE S d) (rdE S k) (rdE S y) σ H Q := by
  obtain ⟨Z, env, fp, rel, h⟩ := h
  unfold evE at h
  refine ⟨Z, env, fp, rel, Po.seq h fun rd e0 x0 H0 Z0 fp0 fr0 st0 kp0 rel0 t0 ap0 h => ?_⟩
  dsimp only at h
  split at h
  · rename_i kvs
    obtain ⟨l, us, rfl, hf0, eh0, ra0, nz0⟩ := id t0
    refine ⟨l, rfl, .inl ⟨us, .inl eh0⟩, Z0, e0, fp0, rel0, Po.seq h fun rk e1 x1 H1 Z1 fp1 fr1 st1 kp1 rel1 t1 ap1 h => ?_⟩
    have u1 := RvR.keep t0 rel0 ap0 st1 kp1
    have a1 : ∀ x ∈ fr0, ¬ Owr fp1 fr1 x := fun x hx o => by
      rcases st1.new x o with q | q
      · exact ap0 x hx q
      · exact t0.there x hx q
    obtain ⟨dk, e2, Z2, fp2, _, st2, kp2, rel2, hk, h⟩ := Po.frz h t1 rel1 ap1
    have u2 : RvR S.K H1 Z2 e2 σ (.td kvs) (.ref l) fr0 := u1.step st2 (fun a z o => o.elim (fun h => rel1.zo a z h) fun h => rv_nz t1 a h z) a1 kp2.2
    have a2 : ∀ x ∈ fr0, ¬ Ow fp2 x := fun x hx o => by
      rcases st2.new x o with q | q
      · exact a1 x hx q
      · exact u1.there x hx q
    refine ⟨Z2, e2, fp2, rel2, Po.seq h fun rx e3 x2 H3 Z3 fp3 fr3 st3 kp3 rel3 t3 ap3 h => ?_⟩
    have u3 := RvR.keep u2 rel2 a2 st3 kp3
    have a3 : ∀ x ∈ fr0, ¬ Owr fp3 fr3 x := fun x hx o => by
      rcases st3.new x o with q | q
      · exact a2 x hx q
      · exact u2.there x hx q
    obtain ⟨dx, e4, Z4, fp4, _, st4, kp4, rel4, hx, h⟩ := Po.frz h t3 rel3 ap3
    have u4 : RvR S.K H3 Z4 e4 σ (.td kvs) (.ref l) fr0 := u3.step st4 (fun a z o => o.elim (fun h => rel3.zo a z h) fun h => rv_nz t3 a h z) a3 kp4.2
    obtain ⟨q0, hq, h⟩ := h.opt
    obtain ⟨l2, us, e, hf, eh, ra, nz⟩ := id u4
    cases e
    have hik := vw_key hk.vw hq
    subst hik
    refine ⟨_, DGet.k eh, ?_⟩
    rcases ra.val q0 with ⟨a1, a2⟩ | ⟨d, u, a1, a2, a3⟩
    · rw [a1] at h
      rw [a2]
      exact h.now rel4 .refl rel4.zs (fr := []) (by simp) ⟨hx, rfl⟩
    · rw [a1] at h
      rw [a2]
      exact h.now rel4 .refl rel4.zs (fr := []) (by simp) ⟨a3, rfl⟩
  · exact h.elim
theorem ok_dget_core {i : Nat} {k y : E} {σ : L2.St} {H : Hp} {Q : VK} (h : rdE S (.dget i k y) σ H Q) : tDGet2 (tVar i) (rdE S k) (rdE S y) σ H Q := by
  obtain ⟨Z, env, fp, rel, h⟩ := h
  unfold evE at h
  split at h
  · rename_i kvs0 hs0
    obtain ⟨w, hv, hr⟩ := rel.at_ i _ hs0
    obtain ⟨l, us0, rfl, hf0, eh0, ra0, nz0⟩ := hr
    refine ⟨.ref l, hv, l, rfl, .inl ⟨us0, .inl eh0⟩, Z, env, fp, rel, Po.seq h fun rk e1 x1 H1 Z1 fp1 fr1 st1 kp1 rel1 t1 ap1 h => ?_⟩
    obtain ⟨dk, e2, Z2, fp2, _, st2, kp2, rel2, hk, h⟩ := Po.frz h t1 rel1 ap1
    refine ⟨Z2, e2, fp2, rel2, Po.seq h fun rx e3 x2 H3 Z3 fp3 fr3 st3 kp3 rel3 t3 ap3 h => ?_⟩
    obtain ⟨dx, e4, Z4, fp4, _, st4, kp4, rel4, hx, h⟩ := Po.frz h t3 rel3 ap3
    dsimp only at h
    split at h
    · rename_i kvs hs
      obtain ⟨q0, hq, h⟩ := h.opt
      obtain ⟨w, hv2, hr⟩ := rel4.at_ i _ hs
      obtain ⟨l2, us, rfl, hf, eh, ra, nz⟩ := hr
      rw [hv] at hv2
      cases hv2
      have hik := vw_key hk.vw hq
      subst hik
      refine ⟨_, DGet.k eh, ?_⟩
      rcases ra.val q0 with ⟨a1, a2⟩ | ⟨d, u, a1, a2, a3⟩
      · rw [a1] at h
        rw [a2]
        exact h.now rel4 .refl rel4.zs (fr := []) (by simp) ⟨hx, rfl⟩
      · rw [a1] at h
        rw [a2]
        exact h.now rel4 .refl rel4.zs (fr := []) (by simp) ⟨a3, rfl⟩
    · exact h.elim
  · exact h.elim
/-! ### dicts with tuple keys -/
theorem ok_tnew {pos : Pos} : PE X (.Dict [] [] pos) (rdE S .tnew) := by
  refine pe_dnewT.imp fun σ H Q h => ?_
  obtain ⟨Z, env, fp, rel, h⟩ := h
  unfold evE at h
  exact fun p n => h.now rel (Grow.new n) rel.zs.upd (fr := [p]) (by simpa using n) ⟨p, [], rfl, rfl, upd_same, .nil, fun z => rel.zs p z n⟩
omit hK in
theorem KtR.some_eq {K : PySem.W.Frag} {H : Hp} {Z : Addr → Prop} {ws : List (List Key × V)} {kvs : List (D × D)} (hk : KtR K H Z ws kvs) (q : List Key) : (dValT kvs q).isSome = (valV ws q).isSome := by
  rcases hk.val q with ⟨e1, e2⟩ | ⟨d, w, e1, e2, _⟩ <;> rw [e1, e2] <;> rfl
def cmpN (ng : Bool) : CmpOp := if ng then .NotIn else .In
def rTin (ng : Bool) : R2 := fun x y H Q => ∃ a o, y = .ref a ∧ DGet H a x o ∧ Q (.bl (ng != o.isSome)) H
omit hK in
theorem op_tin (hu : X.A.units + 1 < cLine) (ng : Bool) : OpR X (compareOp (cmpN ng)) (rTin ng) := by
  intro pins s σ H x y v u Q I rx ry h
  obtain ⟨a, o, rfl, g, q⟩ := h
  cases (show u = Value.ref a from ry)
  cases ng with
  | false => exact d_in hu I g rx fun s' I' => ⟨.bl _, H, I', rfl, by simpa using q⟩
  | true => exact d_notIn hu I g rx fun s' I' => ⟨.bl _, H, I', rfl, by simpa using q⟩
theorem ok_tin_core {ng : Bool} {i : Nat} {k : E} {σ : L2.St} {H : Hp} {Q : VK} (h : rdE S (.tin ng k i) σ H Q) : tOp (rTin ng) (rdE S k) (tVar i) σ H Q := by
  obtain ⟨Z, env, fp, rel, h⟩ := h
  unfold evE at h
  refine ⟨Z, env, fp, rel, Po.seq h fun rk e1 x1 H1 Z1 fp1 fr1 st1 kp1 rel1 t1 ap1 h => ?_⟩
  obtain ⟨dk, e2, Z2, fp2, _, st2, kp2, rel2, hk, h⟩ := Po.frz h t1 rel1 ap1
  dsimp only at h
  split at h
  · rename_i kvs hs
    obtain ⟨q0, hq, h⟩ := h.opt
    obtain ⟨w, hv, hr⟩ := rel2.at_ i _ hs
    obtain ⟨l, us, rfl, hf, eh, ra, nz⟩ := hr
    obtain ⟨kf, b, rfl, hb⟩ := hk.keyV hq
    refine ⟨.ref l, hv, l, _, rfl, DGet.t eh hb, ?_⟩
    rw [← ra.some_eq q0]
    exact h.now rel2 .refl rel2.zs (fr := []) (by simp) ⟨.bl _, rfl⟩
  · exact h.elim
theorem ok_tin (hu : X.A.units + 1 < cLine) {ng : Bool} {i : Nat} {k : E} {l r : Expr} {pos : Pos} (ha : PE X l (rdE S k)) (hb : PE X r (tVar i)) (hm : behindInMarks (cmpN ng) r = false) : PE X (.Compare l [cmpN ng] [r] pos) (rdE S (.tin ng k i)) :=
  (pe_cmpR (op_tin hu ng) ha hb hm).imp fun _ _ _ h => ok_tin_core hK h
theorem ok_T_tin (hu : X.A.units + 1 < cLine) {ng : Bool} {i : Nat} {k : E} {l r : Expr} {pos : Pos} (ha : PE X l (rdE S k)) (hb : PE X r (tVar i)) (hm : behindInMarks (cmpN ng) r = false) : PT X (.Compare l [cmpN ng] [r] pos) (rdT S (.val (.tin ng k i))) := by
  refine (pt_cmpR (op_tin hu ng) ha hb hm).imp fun σ H Q h => ?_
  refine ok_tin_core hK (ok_T_b hK (fun env r e' e => ?_) h)
  unfold evE at e
  cases h1 : evE S.M k env with
  | no => rw [h1] at e; cases e
  | exc => rw [h1] at e; cases e
  | ok x1 =>
    rw [h1] at e
    simp only [R.bind_ok] at e
    cases h2 : Rf.frz x1.2 x1.1 with
    | none => rw [h2] at e; cases e
    | some x2 =>
      rw [h2] at e
      simp only [R.opt_some, R.bind_ok] at e
      split at e
      · cases h3 : keyT x2.1 with
        | none => rw [h3] at e; cases e
        | some q =>
          rw [h3] at e
          simp only [R.opt_some, R.bind_ok] at e
          cases e
          exact ⟨_, rfl⟩
      · cases e
theorem ok_tix_core {i : Nat} {k : E} {σ : L2.St} {H : Hp} {Q : VK} (h : rdE S (.tix i k) σ H Q) : tOp (fun x y H Q => ∃ a v, x = .ref a ∧ DGet H a y (some v) ∧ Q v H) (tVar i) (rdE S k) σ H Q := by
  obtain ⟨Z, env, fp, rel, h⟩ := h
  unfold evE at h
  split at h
  · rename_i kvs0 hs0
    obtain ⟨w, hv, hr⟩ := rel.at_ i _ hs0
    obtain ⟨l, us0, rfl, hf0, eh0, ra0, nz0⟩ := hr
    refine ⟨.ref l, hv, Z, env, fp, rel, Po.seq h fun rk e1 x1 H1 Z1 fp1 fr1 st1 kp1 rel1 t1 ap1 h => ?_⟩
    obtain ⟨dk, e2, Z2, fp2, _, st2, kp2, rel2, hk, h⟩ := Po.frz h t1 rel1 ap1
    dsimp only at h
    split at h
    · rename_i kvs hs
      obtain ⟨q0, hq, h⟩ := h.opt
      obtain ⟨d, hd, h⟩ := h.opt
      obtain ⟨w, hv2, hr⟩ := rel2.at_ i _ hs
      obtain ⟨l2, us, rfl, hf, eh, ra, nz⟩ := hr
      rw [hv] at hv2
      cases hv2
      obtain ⟨kf, b, rfl, hb⟩ := hk.keyV hq
      rcases ra.val q0 with ⟨a1, a2⟩ | ⟨d', u, a1, a2, a3⟩
      · rw [a1] at hd; cases hd
      · rw [a1] at hd
        cases hd
        exact ⟨l, u, rfl, by rw [← a2]; exact DGet.t eh hb, h.now rel2 .refl rel2.zs (fr := []) (by simp) ⟨a3, rfl⟩⟩
    · exact h.elim
  · rename_i kvs0 hs0
    obtain ⟨w, hv, hr⟩ := rel.at_ i _ hs0
    obtain ⟨l, us0, o0, rfl, hf0, z0, eh0, ra0⟩ := hr
    refine ⟨.ref l, hv, Z, env, fp, rel, Po.seq h fun rk e1 x1 H1 Z1 fp1 fr1 st1 kp1 rel1 t1 ap1 h => ?_⟩
    obtain ⟨dk, e2, Z2, fp2, _, st2, kp2, rel2, hk, h⟩ := Po.frz h t1 rel1 ap1
    dsimp only at h
    split at h
    · rename_i kvs hs
      obtain ⟨q0, hq, h⟩ := h.opt
      obtain ⟨d, hd, h⟩ := h.opt
      obtain ⟨w, hv2, hr⟩ := rel2.at_ i _ hs
      obtain ⟨l2, us, o, rfl, hf, z, eh, ra⟩ := hr
      rw [hv] at hv2
      cases hv2
      have hik := vw_key hk.vw hq
      subst hik
      rcases ra.val q0 with ⟨a1, a2⟩ | ⟨d', u, a1, a2, a3⟩
      · rw [a1] at hd; cases hd
      · rw [a1] at hd
        cases hd
        exact ⟨l, u, rfl, .inl ⟨us, q0, .inr ⟨o, eh⟩, rfl, a2.symm⟩, h.now rel2 .refl rel2.zs (fr := []) (by simp) ⟨a3, rfl⟩⟩
    · exact h.elim
  · exact h.elim
theorem ok_tget_core {i : Nat} {k y : E} {σ : L2.St} {H : Hp} {Q : VK} (h : rdE S (.tget i k y) σ H Q) : tDGet2 (tVar i) (rdE S k) (rdE S y) σ H Q := by
  obtain ⟨Z, env, fp, rel, h⟩ := h
  unfold evE at h
  split at h
  · rename_i kvs0 hs0
    obtain ⟨w, hv, hr⟩ := rel.at_ i _ hs0
    obtain ⟨l, us0, rfl, hf0, eh0, ra0, nz0⟩ := hr
    refine ⟨.ref l, hv, l, rfl, .inr ⟨us0, .inl eh0⟩, Z, env, fp, rel, Po.seq h fun rk e1 x1 H1 Z1 fp1 fr1 st1 kp1 rel1 t1 ap1 h => ?_⟩
    obtain ⟨dk, e2, Z2, fp2, _, st2, kp2, rel2, hk, h⟩ := Po.frz h t1 rel1 ap1
    refine ⟨Z2, e2, fp2, rel2, Po.seq h fun rx e3 x2 H3 Z3 fp3 fr3 st3 kp3 rel3 t3 ap3 h => ?_⟩
    have hk3 := hk.step st3 rel2.zo
    obtain ⟨dx, e4, Z4, fp4, _, st4, kp4, rel4, hx, h⟩ := Po.frz h t3 rel3 ap3
    have hk4 : Rp S.K H3 Z4 x1 dk := hk3.mono st4.mono fun _ _ _ e => e
    dsimp only at h
    split at h
    · rename_i kvs hs
      obtain ⟨q0, hq, h⟩ := h.opt
      obtain ⟨w, hv2, hr⟩ := rel4.at_ i _ hs
      obtain ⟨l2, us, rfl, hf, eh, ra, nz⟩ := hr
      rw [hv] at hv2
      cases hv2
      obtain ⟨kf, b, rfl, hb⟩ := hk4.keyV hq
      refine ⟨_, DGet.t eh hb, ?_⟩
      rcases ra.val q0 with ⟨a1, a2⟩ | ⟨d, u, a1, a2, a3⟩
      · rw [a1] at h
        rw [a2]
        exact h.now rel4 .refl rel4.zs (fr := []) (by simp) ⟨hx, rfl⟩
      · rw [a1] at h
        rw [a2]
        exact h.now rel4 .refl rel4.zs (fr := []) (by simp) ⟨a3, rfl⟩
    · exact h.elim
  · exact h.elim
omit hK in
theorem RpAll.dropLast {K : PySem.W.Frag} {H : Hp} {Z : Addr → Prop} {vs : List V} {ds : List D} (h : RpAll K H Z vs ds) : RpAll K H Z vs.dropLast ds.dropLast := by
  rw [List.dropLast_eq_take, List.dropLast_eq_take, h.length]
  exact h.take _
/-- xs.pop() -/
theorem ok_pop_core {i : Nat} {σ : L2.St} {H : Hp} {Q : VK} (h : rdE S (.pop i) σ H Q) : tBM0 X.K "list" rPop (tVar i) σ H Q := by
  obtain ⟨Z, env, fp, rel, h⟩ := h
  unfold evE at h
  split at h
  · rename_i ds hs
    obtain ⟨v, hv, hr⟩ := rel.at_ i _ hs
    obtain ⟨l, us, rfl, hf, eh, ra, nz⟩ := hr
    refine ⟨_, hv, .inl ⟨rfl, us, .of eh⟩, ?_⟩
    split at h
    · rename_i d hd
      have hl := ra.length
      have hd' : ds[ds.length - 1]? = some d := by rw [← List.getLast?_eq_getElem?]; exact hd
      obtain ⟨u, hu, ru⟩ := ra.getD hd'
      refine ⟨l, us, u, rfl, rfl, eh, by rw [hl]; exact hu, ?_⟩
      have hy := RpAll.dropLast ra
      have hn : SvR S.K (upd H l (.lst us.dropLast)) Z (.lst ds.dropLast) (.ref l) [l] := ⟨l, _, rfl, rfl, upd_same, hy.mono (fun _ h => h) fun a o z e => by rw [upd_ne fun q => nz (by rw [← q]; exact z)]; exact e, nz⟩
      exact h u (upd H l (.lst us.dropLast)) Z fp [] (write_step hf) .set (rel.write hs hv hf hn) ⟨ru.mono (fun _ h => h) fun a o z e => by rw [upd_ne fun q => nz (by rw [← q]; exact z)]; exact e, rfl⟩ (by simp)
    · exact h.elim
  · exact h.elim
end
end Rf
end

-- text RfX
section
set_option Elab.async false
set_option linter.all false
set_option maxRecDepth 100000
set_option maxHeartbeats 1000000
/-! RfX: constants of the top, a[::-1], displays of dicts, max and min with a default. -/
namespace Rf
open PySem PySem.Spec PyProof.Rows L2
section
variable {X : Cx} {S : Sx} (hK : S.K = X.K)
theorem ok_any {x : Expr} : PE X x (rdE S .any) := ⟨fun pins s σ H Q I q => by
  obtain ⟨Z, env, fp, rel, q⟩ := q
  unfold evE at q
  exact q.elim⟩
theorem ok_T_any {x : Expr} : PT X x (rdT S .any) := ⟨fun pins s σ H Q I q => by
  obtain ⟨Z, env, fp, rel, q⟩ := q
  unfold evT at q
  exact q.elim⟩
include hK
/-- a constant of the top -/
theorem ok_gbl {n : Nat} {y : Str} {pos : Pos} (hg : Gl X y) (hd : (y == ("__debug__" : Str)) = false) (h : ∀ d, S.M.gl n = some d → isDct d = false → ∃ v u, X.mg y = some u ∧ RelV v u ∧ ∀ H Z, Rp S.K H Z v d) : PE X (.Name y pos) (rdE S (.gbl n)) := by
  refine ⟨fun pins s σ H Q I q => ?_⟩
  obtain ⟨Z, env, fp, rel, q⟩ := q
  unfold evE at q
  obtain ⟨d, ed, q⟩ := q.opt
  split at q
  · exact q.elim
  · rename_i nd
    obtain ⟨v, u, hm, ru, hr⟩ := h d ed (by simpa using nd)
    exact (pe_glob hg hm ru hd).run pins s σ H Q I (q.now rel .refl rel.zs (fr := []) (by simp) ⟨hr H Z, rfl⟩)
theorem ok_gix {n : Nat} {k : E} {y : Str} {z : Expr} {p pos : Pos} (hg : Gl X y) (hd : (y == ("__debug__" : Str)) = false) (hk : PE X z (rdE S k)) (hs : PlainIx z) (h : ∀ kvs, S.M.gl n = some (.dict kvs) → ∃ a, X.mg y = some (.ref a) ∧ ∀ w d, dVal kvs (.inr w) = some d → ∃ v, KDct X.K X.w a w v ∧ ∀ H Z, Rp S.K H Z v d) :
    PE X (.Subscript (.Name y p) z pos) (rdE S (.gix n k)) := by
  cases hgl : S.M.gl n with
  | none => exact ⟨fun pins s σ H Q I q => by
      obtain ⟨Z, env, fp, rel, q⟩ := q
      unfold evE at q
      rw [hgl] at q
      exact q.elim⟩
  | some d =>
    cases d with
    | dict kvs =>
      obtain ⟨a, hm, hr⟩ := h kvs hgl
      refine (pe_ix ix_kdict (pe_glob (v := .ref a) hg hm rfl hd) hk hs).imp fun σ H Q q => ?_
      obtain ⟨Z, env, fp, rel, q⟩ := q
      unfold evE at q
      rw [hgl] at q
      dsimp only at q
      refine ⟨Z, env, fp, rel, Po.seq q fun rk e1 x H1 Z1 fp1 fr1 st1 kp1 rel1 t1 ap1 q => ?_⟩
      dsimp only at q
      split at q
      · rename_i w ew
        obtain ⟨d, ed, q⟩ := q.opt
        have hv := t1.vw rel1 ew
        cases hv
        obtain ⟨v, kd, rp⟩ := hr w d ed
        exact ⟨a, w, v, rfl, rfl, kd, q.now rel1 .refl rel1.zs (fr := []) (by simp) ⟨rp H1 Z1, rfl⟩⟩
      · exact q.elim
    | _ => exact ⟨fun pins s σ H Q I q => by
        obtain ⟨Z, env, fp, rel, q⟩ := q
        unfold evE at q
        rw [hgl] at q
        exact q.elim⟩
/-- a[::-1] -/
theorem ok_rev {a : E} {y : Expr} {k : Nat} {p1 p2 p3 pos : Pos} (ha : PE X y (rdE S a)) : PE X (.Subscript y (.Slice none none (some (.UnaryOp .USub (.Constant (.int 1) k p1) p2)) p3) pos) (rdE S (.rev a)) := by
  refine (pe_revL ha).imp fun σ H Q h => ?_
  obtain ⟨Z, env, fp, rel, h⟩ := h
  unfold evE at h
  refine ⟨Z, env, fp, rel, Po.seq h fun ra e1 x H1 Z1 fp1 fr1 st1 kp1 rel1 t1 ap1 h => ?_⟩
  dsimp only at h
  split at h
  · rename_i xs ex
    have hv := t1.vw rel1 ex
    rw [hK] at hv
    obtain ⟨a, ys, rfl, hs, ra⟩ := hv
    refine ⟨a, ys, rfl, hs, ?_⟩
    rw [← hK] at ra
    exact (h.post rel1 trivial).lst rel1.zs (RpAll.reverse ra)
  · exact h.elim
omit hK in
theorem findIdx_at {zs : List Str} {z : Str} {j : Nat} (h : zs.findIdx? (fun y => decide (y = z)) = some j) : zs[j]? = some z ∧ ∀ m, m < j → zs[m]? ≠ some z := by
  rw [List.findIdx?_eq_some_iff_getElem] at h
  obtain ⟨hl, h1, h2⟩ := h
  refine ⟨by rw [List.getElem?_eq_getElem hl]; exact congrArg some (of_decide_eq_true h1), fun m hm e => ?_⟩
  have hml : m < zs.length := by omega
  rw [List.getElem?_eq_getElem hml] at e
  have := h2 m hm
  simp at this
  exact this (Option.some.inj e)
/-- a tuple that is known whole -/
def tyTup (x : V) (H : Hp) : Prop := ∃ a o xs, x = .ref a ∧ H a = some (.frz o (.tup xs)) ∧ o.dict = none
omit hK in
theorem ty_tup : TyOk X "tuple" tyTup := by
  rintro pins σ H s x v I r ⟨a, o, xs, rfl, h, hd⟩
  cases r
  obtain ⟨e, _, its, _, o', e', hc, _⟩ := (show ObjOk X.prog X.w H s.heap a (.frz o (.tup xs)) from I.hok a _ h)
  refine ⟨⟨o', e', hc⟩, fun b q => ?_⟩
  cases q
  exact ⟨o, e, hd⟩
omit hK in
theorem Rp.clean {K : PySem.W.Frag} {H : Hp} {Z : Addr → Prop} {v : V} {ds : List D} (h : Rp K H Z v (.tuple ds)) (hc : cleanB ds = true) (hs : statB ds = false) : ∃ a o xs, v = .ref a ∧ Z a ∧ H a = some (.frz o (.tup xs)) ∧ o.dict = none ∧ RpAll K H Z xs ds := by
  cases h with
  | tup o z hd r a => rw [hc] at r; exact ⟨_, o, _, rfl, z, r, hd, a⟩
  | stup c r a => rw [hs] at c; cases c
/-- t.index(x) -/
theorem ok_tmi {o a : E} {y z : Expr} {apos cpos : Pos} (ho : PE X y (rdE S o)) (ha : PE X z (rdE S a)) (hb : attributeBase y "index" X.env (eval y X.env) = eval y X.env) (hl : (apos.endLine == cpos.line) = true) (hs : starEach [z] X.env = (false, eval z X.env) :: starEach [] X.env) :
    PE X (.Call (.Attribute y "index" apos) [z] [] cpos) (rdE S (.tmi o a)) := by
  refine (pe_mG (name := "index") ty_tup PySem.F.plainAttrs_tuple PySem.F.slot_tuple_index PySem.F.type_tuple_index mt_tup_index ho (pa_cons ha pa_nil hs) hb (by rw [hs]; rfl) hl hs rfl).imp fun σ H Q h => ?_
  obtain ⟨Z, env, fp, rel, h⟩ := h
  unfold evE at h
  refine ⟨Z, env, fp, rel, Po.seq h fun ro e1 x H1 Z1 fp1 fr1 st1 kp1 rel1 t1 ap1 h => ?_⟩
  obtain ⟨d, e2, Z2, fp2, _, st2, kp2, rel2, hk, h⟩ := Po.frz h t1 rel1 ap1
  dsimp only at h
  split at h
  · rename_i hb
    cases d with
    | tuple ds =>
      have hb : (cleanB ds && !statB ds) = true := hb
      rw [Bool.and_eq_true, Bool.not_eq_true'] at hb
      obtain ⟨p, ob, xs, rfl, zp, hp, hd, ra⟩ := hk.clean hb.1 hb.2
      refine ⟨⟨p, ob, xs, rfl, hp, hd⟩, Z2, e2, fp2, rel2, Po.seq h fun rx e3 x2 H3 Z3 fp3 fr3 st3 kp3 rel3 t3 ap3 h => ?_⟩
      obtain ⟨dx, ex, h⟩ := h.opt
      have hv := t3.vw rel3 ex
      cases dx with
      | str w =>
        obtain ⟨j, ej, h⟩ := h.opt
        obtain ⟨zs, ezs, ej⟩ := Option.bind_eq_some_iff.mp (show ((strsOf ds).bind fun zs => zs.findIdx? fun y => decide (y = w)) = some j from ej)
        cases hv
        have hx := strs_vw ra ezs
        subst hx
        obtain ⟨f1, f2⟩ := findIdx_at ej
        have hp3 := (st3.keep p _ hp (rel2.zo p zp)).1
        exact ⟨p, zs, w, j, rfl, rfl, .inl (.inr ⟨ob, hp3⟩), f1, f2, (h.post rel3 trivial).int rel3.zs⟩
      | _ => exact h.elim
    | _ => cases hb
  · exact h.elim
/-- max(a, default=x), min(a, default=x) -/
def rMmd (K : PySem.W.Frag) (b : Blt) : List V → List V → Hp → VK → Prop := fun xs zs H Q => ∃ Z x z d dx r, Zok H Z ∧ xs = [x] ∧ zs = [z] ∧ Vw K H Z x d ∧ Vw K H Z z dx ∧ mmdD b d dx = some r ∧ PostR K H Z Q (.dat r)
omit hK in
theorem mmd_run (hc : X.calm = true) (hu : X.A.units + 200 < cLine) (b : Blt) (hb : b = .max ∨ b = .min) : CallRK X b.val [Str.ofString "default"] (rMmd X.K b) := by
  intro pins s σ H xs zs us ws Q I r1 r2 h
  obtain ⟨Z, x, z, d, dx, r, zk, rfl, rfl, hx, hz, e, q⟩ := h
  obtain ⟨u1, rfl, rx⟩ := vals1 r1
  obtain ⟨u2, rfl, rz⟩ := vals1 r2
  have hld : ∀ y, isLD y = false → Vw X.K H Z z y → Rp X.K H Z z y := fun y hy hv => by
    cases y <;> first | exact hv | (simp [isLD] at hy)
  have key : ∃ ds, d = .list ds := by
    unfold mmdD at e
    split at e <;> first | exact ⟨_, rfl⟩ | cases e
  obtain ⟨ds, rfl⟩ := key
  obtain ⟨a, ys, rfl, ha, ra⟩ := hx
  cases rx
  obtain ⟨its, rv, p, hsz⟩ := I.list ha
  obtain ⟨as, hr⟩ := Dp.readsAll I _ ys its ra.dp rv
  rcases hb with rfl | rfl
  · cases ds with
    | nil =>
      have e : (if isLD dx then none else some dx) = some r := e
      split at e
      · cases e
      · rename_i nl
        cases e
        refine PySem.W.max_list_default (I.ok.hd hc) p.isList hr ⟨fun a ha => by simp at ha, fun a ha => by simp at ha⟩ (by simp only [PyData.depthAll]; omega) (fun _ h' tk hk => ?_) fun y ys i v h' tk bs e => by cases e
        exact ⟨z, H, I.kept (t' := tk) hk, rz, q.old zk (hld _ (by simpa using nl) hz)⟩
    | cons y r' =>
      have e : (if bestOk (y :: r') then some (PySem.W.maxD y r') else none) = some r := e
      split at e
      · rename_i ho
        cases e
        obtain ⟨b1, b2⟩ := best_all ho
        refine PySem.W.max_list_default (I.ok.hd hc) p.isList hr b1 (by omega) (fun e => by cases e) fun y' ys' i v h' tk bs e hv hr' hk => ?_
        cases e
        obtain ⟨w, r, rd⟩ := stood I rv ra hv hr' hk b1.1 (fold_mem (fun a y => PySem.W.dataLt a y) r' y)
        exact ⟨w, H, I.kept (t' := tk) hk, r, q.old zk rd⟩
      · cases e
  · cases ds with
    | nil =>
      have e : (if isLD dx then none else some dx) = some r := e
      split at e
      · cases e
      · rename_i nl
        cases e
        refine PySem.W.min_list_default (I.ok.hd hc) p.isList hr ⟨fun a ha => by simp at ha, fun a ha => by simp at ha⟩ (by simp only [PyData.depthAll]; omega) (fun _ h' tk hk => ?_) fun y ys i v h' tk bs e => by cases e
        exact ⟨z, H, I.kept (t' := tk) hk, rz, q.old zk (hld _ (by simpa using nl) hz)⟩
    | cons y r' =>
      have e : (if bestOk (y :: r') then some (PySem.W.minD y r') else none) = some r := e
      split at e
      · rename_i ho
        cases e
        obtain ⟨b1, b2⟩ := best_all ho
        refine PySem.W.min_list_default (I.ok.hd hc) p.isList hr b1 (by omega) (fun e => by cases e) fun y' ys' i v h' tk bs e hv hr' hk => ?_
        cases e
        obtain ⟨w, r, rd⟩ := stood I rv ra hv hr' hk b1.1 (fold_mem (fun a y => PySem.W.dataLt y a) r' y)
        exact ⟨w, H, I.kept (t' := tk) hk, r, q.old zk rd⟩
      · cases e
theorem ok_mmd (hc : X.calm = true) (hu : X.A.units + 200 < cLine) {b : Blt} (hb : b = .max ∨ b = .min) {a y : E} {u v : Expr} {p pos kp : Pos} (hg : Gl X b.nm) (hm : X.mg b.nm = none) (ha : PE X u (rdE S a)) (hy : PE X v (rdE S y)) (hs : isStar u = false) :
    PE X (.Call (.Name b.nm p) [u] [⟨some "default", v, kp⟩] pos) (rdE S (.mmd b a y)) := by
  have hst : starEach [u] X.env = (false, eval u X.env) :: starEach [] X.env := star_plain hs [] X.env
  have hv : ∃ id, b.val = .builtin id := by rcases hb with rfl | rfl <;> exact ⟨_, rfl⟩
  obtain ⟨id, hid⟩ := hv
  have hcr := mmd_run (X := X) hc hu b hb
  rw [hid] at hcr
  have hb2 := b.boot
  rw [hid] at hb2
  refine (pe_callBK hcr hg hm hb2 (pa_cons ha pa_nil hst) (pk_cons hy pk_nil) b.noname b.nodebug (by rw [hst]; rfl) (by rw [hst]; rfl) rfl rfl rfl).imp fun σ H Q h => ?_
  obtain ⟨Z, env, fp, rel, h⟩ := h
  unfold evE at h
  refine ⟨Z, env, fp, rel, Po.seq h fun ra e1 x H1 Z1 fp1 fr1 st1 kp1 rel1 t1 ap1 h => ?_⟩
  refine ⟨Z1, e1, fp1, rel1, Po.seq h fun rx e2 z H2 Z2 fp2 fr2 st2 kp2 rel2 t2 ap2 h => ?_⟩
  obtain ⟨d, ed, h⟩ := h.opt
  obtain ⟨dx, ex, h⟩ := h.opt
  obtain ⟨r, er, h⟩ := h.opt
  have t1' := RvR.keep t1 rel1 ap1 st2 kp2
  rw [← hK]
  exact ⟨Z2, x, z, d, dx, r, rel2.zs, rfl, rfl, t1'.vw rel2 ed, t2.vw rel2 ex, er, h.post rel2 trivial⟩
end
/-! ### {k: v, ..} -/
def unp : List (V × V) → List V
  | [] => []
  | p :: r => p.1 :: p.2 :: unp r
def trsOf (S : Sx) : Es → List (TE × TE)
  | .cons k (.cons v r) => (rdE S k, rdE S v) :: trsOf S r
  | _ => []
def evenEs : Es → Bool
  | .nil => true
  | .cons _ .nil => false
  | .cons _ (.cons _ r) => evenEs r
def tPs (S : Sx) : Tp (List D) (List (V × V)) := fun ds ps H' Z' _ fr => RpAll S.K H' Z' (unp ps) ds ∧ fr = []
theorem R.bind_assoc {α β γ : Type} (x : R α) (f : α → R β) (g : β → R γ) : (x.bind f).bind g = x.bind fun a => (f a).bind g := by cases x <;> rfl
theorem pairs_go {S : Sx} {σ : L2.St} : ∀ (es : Es) {H : Hp} {Z : Addr → Prop} {env : En} {fp : Nat → List Addr} {fx : List Addr} {Q : List (V × V) → Hp → Prop}, evenEs es = true → Rel S.K H Z env σ fp → Po S σ H Z env fp fx (tPs S) Q (evDs S.M es env) → tPairs (trsOf S es) σ H Q
  | .nil, H, Z, env, fp, fx, Q, _, rel, h => by
    unfold evDs at h
    exact h.now (b := []) rel .refl rel.zs (fr := []) (by simp) ⟨.nil, rfl⟩
  | .cons _ .nil, H, Z, env, fp, fx, Q, he, _, _ => by simp [evenEs] at he
  | .cons k (.cons v r), H, Z, env, fp, fx, Q, he, rel, h => by
    unfold evDs at h
    show rdE S k σ H fun x H1 => rdE S v σ H1 fun y H2 => tPairs (trsOf S r) σ H2 fun ps H3 => Q ((x, y) :: ps) H3
    refine ⟨Z, env, fp, rel, Po.seq h fun re e1 x H1 Z1 fp1 fr1 st1 kp1 rel1 t1 ap1 h => ?_⟩
    obtain ⟨d, e2, Z2, fp2, _, st2, kp2, rel2, hd, h⟩ := Po.frz h t1 rel1 ap1
    dsimp only at h
    unfold evDs at h
    rw [R.bind_assoc] at h
    refine ⟨Z2, e2, fp2, rel2, Po.seq h fun rv e3 y H3 Z3 fp3 fr3 st3 kp3 rel3 t3 ap3 h => ?_⟩
    dsimp only at h
    rw [R.bind_assoc] at h
    obtain ⟨dv, e4, Z4, fp4, _, st4, kp4, rel4, hv, h⟩ := Po.frz h t3 rel3 ap3
    dsimp only at h
    rw [R.bind_assoc] at h
    have hd3 := hd.step st3 rel2.zo
    have hd4 : Rp S.K H3 Z4 x d := hd3.mono st4.mono fun a o z e => e
    refine pairs_go r (by simpa [evenEs] using he) rel4 (Po.seq h fun ds e5 ps H5 Z5 fp5 fr5 st5 kp5 rel5 t5 ap5 h => ?_)
    obtain ⟨t5, rfl⟩ := t5
    dsimp only [R.bind_ok] at h
    exact h.now rel5 .refl rel5.zs (fr := []) (by simp) ⟨.cons (hd4.step st5 rel4.zo) (.cons (hv.step st5 rel4.zo) t5), rfl⟩
theorem pairUp_len : ∀ {ds : List D} {ps : List (D × D)}, pairUp ds = some ps → ds.length = 2 * ps.length
  | [], ps, h => by cases h; rfl
  | [_], ps, h => by cases h
  | k :: v :: r, ps, h => by
    obtain ⟨qs, hq, rfl⟩ := Option.map_eq_some_iff.mp (show (pairUp r).map ((k, v) :: ·) = some ps from h)
    have := pairUp_len hq
    simp only [List.length_cons]; omega
/-- the pairs, put one by one -/
theorem put_go {K : PySem.W.Frag} {H : Hp} {Z : Addr → Prop} : ∀ {ps : List (V × V)} {ds : List D} {qs : List (D × D)} {acc kvs : List (D × D)} {ws : List (Key × V)}, pairUp ds = some qs → putAll acc qs = some kvs → RpAll K H Z (unp ps) ds → KvR K H Z ws acc →
    ∃ ms : List (Key × V), ps = ms.map (fun kv => (kV kv.1, kv.2)) ∧ ms.length = qs.length ∧ KvR K H Z (mergeK ws ms) kvs
  | [], ds, qs, acc, kvs, ws, hp, hq, hr, hw => by
    cases hr
    cases hp
    cases hq
    exact ⟨[], rfl, rfl, hw⟩
  | (x, y) :: ps, ds, qs, acc, kvs, ws, hp, hq, hr, hw => by
    cases hr with
    | @cons _ _ dk ds1 rk hr =>
      cases hr with
      | @cons _ _ dv ds2 rv hr =>
        obtain ⟨qs', h1, rfl⟩ := Option.map_eq_some_iff.mp (show (pairUp ds2).map ((dk, dv) :: ·) = some qs from hp)
        obtain ⟨q0, hk, h2⟩ := Option.bind_eq_some_iff.mp (show ((keyOf dk).bind fun q => putAll (dPut acc dk q dv) qs') = some kvs from hq)
        obtain ⟨ms, e1, e2, e3⟩ := put_go h1 h2 hr (hw.put hk rk.keyFit rv)
        have hx : x = kV q0 := vw_key rk.vw hk
        refine ⟨(q0, y) :: ms, by rw [e1, hx]; rfl, by simp [e2], ?_⟩
        exact e3
/-- rows of pairs, put one by one -/
theorem rows_go {K : PySem.W.Frag} {H : Hp} {Z : Addr → Prop} : ∀ {vs : List V} {ds : List D} {qs : List (D × D)} {acc kvs : List (D × D)} {ws : List (Key × V)}, pairsOf ds = some qs → putAll acc qs = some kvs → RpAll K H Z vs ds → KvR K H Z ws acc →
    ∃ (bs : List Addr) (ms : List (Key × V)), vs = bs.map V.ref ∧ Paired (fun p kv => SqT K H p [kV kv.1, kv.2]) bs ms ∧ KvR K H Z (mergeK ws ms) kvs
  | [], ds, qs, acc, kvs, ws, hp, hq, hr, hw => by
    cases hr; cases hp; cases hq
    exact ⟨[], [], rfl, .nil, hw⟩
  | v :: vs, dds, qs, acc, kvs, ws, hp, hq, hrr, hw => by
    obtain ⟨d, ds, rfl, rd, hr⟩ : ∃ d ds, dds = d :: ds ∧ Rp K H Z v d ∧ RpAll K H Z vs ds := by
      cases hrr with
      | cons a b => exact ⟨_, _, rfl, a, b⟩
    unfold pairsOf at hp
    split at hp
    · rename_i he; cases he
    · rename_i dk dv r he
      cases he
      obtain ⟨qs', h1, rfl⟩ := Option.map_eq_some_iff.mp hp
      obtain ⟨q0, hk, h2⟩ := Option.bind_eq_some_iff.mp (show ((keyOf dk).bind fun q => putAll (dPut acc dk q dv) qs') = some kvs from hq)
      obtain ⟨b, ys, rfl, hb, rb⟩ := rd.vw.tup
      cases rb with
      | cons rk rb =>
        cases rb with
        | cons rv rn =>
          cases rn
          obtain ⟨bs, ms, e1, e2, e3⟩ := rows_go h1 h2 hr (hw.put hk rk.keyFit rv)
          have hx := vw_key rk.vw hk
          subst hx
          exact ⟨b :: bs, (q0, _) :: ms, by rw [e1]; rfl, .cons hb e2, e3⟩
    · cases hp
section
variable {X : Cx}
theorem rows_of {pins : List (Addr × Obj)} {σ : L2.St} {H : Hp} {s : Shared} (I : Inv X pins σ H s) : ∀ {bs : List Addr} {ms : List (Key × V)}, Paired (fun p kv => SqT X.K H p [kV kv.1, kv.2]) bs ms →
    ∃ (prs : List (Key × Value)) (us : List Value), KV ms prs ∧ prs.length = bs.length ∧ us.length = bs.length ∧ ∀ (j : Nat) (q : Key × Value) (u : Value), prs[j]? = some q → us[j]? = some u → ∃ b, bs[j]? = some b ∧ IsTup s.heap b #[u, q.2] ∧ keyIs q.1 u = true
  | _, _, .nil => ⟨[], [], .nil, rfl, rfl, fun j q u e => by simp at e⟩
  | _, _, .cons (a := p) (b := kv) h t => by
    obtain ⟨prs, us, r, h1, h2, h3⟩ := rows_of I t
    obtain ⟨its, rv, ht, _⟩ := I.tuple h
    obtain ⟨u, y, ei, ru, ry⟩ := vals2 rv
    subst ei
    refine ⟨(kv.1, y) :: prs, u :: us, .cons ⟨rfl, ry⟩ r, by simp [h1], by simp [h2], fun j q v e1 e2 => ?_⟩
    cases j with
    | zero =>
      simp at e1 e2
      subst e1 e2
      exact ⟨p, rfl, ht, kV_is (P := X.prog) (w := X.w) ru⟩
    | succ j => simpa using h3 j q v (by simpa using e1) (by simpa using e2)
theorem call_dctD (hc : X.calm = true) : CallR X (.type "dict") (fun xs H Q => ∃ Z x d kvs, Zok H Z ∧ xs = [x] ∧ Rp X.K H Z x d ∧ dctD d = some kvs ∧ ∀ p ws, H p = none → KvR X.K H Z ws kvs → Q (.ref p) (upd H p (.dK ws))) := by
  intro pins s σ H xs us Q I r h
  obtain ⟨Z, x, d, kvs, zk, rfl, hx, e, q⟩ := h
  cases d with
  | list ds =>
    have e : (if sizeOk ds.length then (pairsOf ds).bind (putAll []) else none) = some kvs := e
    split at e
    · obtain ⟨qs, h1, h2⟩ := Option.bind_eq_some_iff.mp e
      obtain ⟨a, vs, rfl, ha, ra⟩ := hx.vw
      obtain ⟨bs, ms, rfl, hp, hk⟩ := rows_go h1 h2 ra .nil
      exact call_dictP hc pins s σ H _ us Q I r ⟨a, bs, ms, rfl, ha, hp, fun p n => q p _ n hk⟩
    · cases e
  | tuple ds =>
    have e : (if ((cleanB ds && !statB ds) && sizeOk ds.length) = true then (pairsOf ds).bind (putAll []) else none) = some kvs := e
    split at e
    · rename_i hb
      simp only [Bool.and_eq_true, Bool.not_eq_true'] at hb
      obtain ⟨qs, h1, h2⟩ := Option.bind_eq_some_iff.mp e
      obtain ⟨a, ob, vs, rfl, za, ha, hd, ra⟩ := hx.clean hb.1.1 hb.1.2
      obtain ⟨bs, ms, rfl, hp, hk⟩ := rows_go h1 h2 ra .nil
      obtain ⟨u, rfl, ru⟩ := vals1 r
      cases ru
      obtain ⟨eo, hz, its, rv, o', e', hcl, n, hdt⟩ := (show ObjOk X.prog X.w H s.heap a (.frz ob (.tup (bs.map V.ref))) from I.hok a _ ha)
      rw [eo] at e'
      cases e'
      have ei := refs_at rv
      subst ei
      obtain ⟨prs, us, rel, l1, l2, hpr⟩ := rows_of I hp
      have lz : (us.zip (prs.map (·.2))).length = bs.length := by simp [l1, l2]
      rw [List.length_map] at hz
      refine PySem.call_dict_pairs (knd := mixKind X.prog X.w) (kvs := prs) (PairArg.tuple a (bs.map Value.ref).toArray (fun j => bs.getD j 0) (us.zip (prs.map (·.2)))) (I.ok.hd hc) ⟨⟨ob, n, eo, hcl, hd, hdt⟩, by simp [l1, l2], fun j k v hj => ?_⟩ ⟨by rw [lz, l1], fun j k v hj => ?_⟩ (by rw [lz]; exact hz) fun h' tk hd' k => ?_
      · obtain ⟨h3, h4⟩ := List.getElem?_zip_eq_some.mp hj
        rw [List.getElem?_map] at h4
        obtain ⟨q0, h5, rfl⟩ := Option.map_eq_some_iff.mp h4
        obtain ⟨b, h6, h7, _⟩ := hpr j q0 k h5 h3
        exact ⟨by simp [h6], .inl (by show s.heap.IsTuple (bs.getD j 0) _; rw [List.getD_eq_getElem?_getD, h6]; exact h7)⟩
      · obtain ⟨h3, h4⟩ := List.getElem?_zip_eq_some.mp (show (us.zip (prs.map (·.2)))[j]? = some (k, v) from hj)
        rw [List.getElem?_map] at h4
        obtain ⟨q0, h5, rfl⟩ := Option.map_eq_some_iff.mp h4
        obtain ⟨b, h6, _, h7⟩ := hpr j q0 k h5 h3
        exact ⟨q0.1, h5, h7⟩
      · have hlen : (mergeK [] ms).length ≤ sizeLine := by
          have t1 := length_mergeK ms []
          have t2 := rel.length
          simp only [List.length_nil] at t1
          omega
        exact ⟨.ref s.heap.objs.size, _, I.laid (t' := tk) (o := .dK (mergeK [] ms)) (fun b o e => k b o (by simp) e) (Nat.le_refl _) ⟨hlen, beq_eq_false_iff_ne.mpr (Nat.ne_of_gt I.big), merged [] prs, KV.merge rel .nil, hd'⟩, rfl, q _ _ (I.hok.fresh (Nat.le_refl _)) hk⟩
    · cases e
  | _ => cases e
end
section
variable {X : Cx} {S : Sx} (hK : S.K = X.K)
include hK
theorem ok_dct (hc : X.calm = true) {a : E} {z : Expr} {p pos : Pos} (hg : Gl X "dict") (hm : X.mg "dict" = none) (ha : PE X z (rdE S a)) (hs : starEach [z] X.env = (false, eval z X.env) :: starEach [] X.env) : PE X (.Call (.Name "dict" p) [z] [] pos) (rdE S (.dct a)) := by
  refine (pe_callTy (call_dctD (X := X) hc) hg hm (by decide +kernel) (pa_cons ha pa_nil hs) (by decide) (by decide) hs rfl).imp fun σ H Q h => ?_
  obtain ⟨Z, env, fp, rel, h⟩ := h
  unfold evE at h
  refine ⟨Z, env, fp, rel, Po.seq h fun ra e1 x H1 Z1 fp1 fr1 st1 kp1 rel1 t1 ap1 h => ?_⟩
  obtain ⟨d, e2, Z2, fp2, _, st2, kp2, rel2, hk, h⟩ := Po.frz h t1 rel1 ap1
  obtain ⟨kvs, ek, h⟩ := h.opt
  refine ⟨Z2, x, d, kvs, rel2.zs, rfl, by rw [← hK]; exact hk, ek, fun p ws n hkv => ?_⟩
  rw [← hK] at hkv
  exact h.now rel2 (Grow.new n) rel2.zs.upd (fr := [p]) (by simpa using n) ⟨p, ws, rfl, rfl, upd_same, hkv.grow (.new n), fun z => rel2.zs p z n⟩
theorem ok_dsp {es : Es} {keys : List (Option Expr)} {vals : List Expr} {pos : Pos} (h : PPs X pos keys vals (trsOf S es)) (he : evenEs es = true) (hall : keys.all (·.isSome) = true) (hl : keys.length = vals.length) (h0 : keys ≠ []) (h15 : keys.length ≤ 15) : PE X (.Dict keys vals pos) (rdE S (.dsp es)) := by
  refine (pe_disp h hall hl h0 h15).imp fun σ H Q h => ?_
  obtain ⟨Z, env, fp, rel, h⟩ := h
  unfold evE at h
  intro p np
  have g0 : Grow H Z (upd H p (.dK [])) Z := Grow.new np
  have rel0 := rel.grow g0 rel.zs.upd
  have st0 : Step H Z (Owr fp []) (upd H p (.dK [])) Z (Owr fp [p]) := g0.step.weak (fun _ h => h) fun x o => o.elim (fun o => .inl (.inl o)) fun o => .inr (.inr (by simp at o; rw [o]; exact np))
  have nz : ¬ Z p := fun z => rel.zs p z np
  have no : ¬ Ow fp p := fun o => (rel.owned o).2 np
  refine pairs_go (Z := Z) (env := env) (fp := fp) (fx := []) es he rel0 (Po.seq (fx := [p]) (h.adv st0 .refl) fun ds e1 ps H1 Z1 fp1 fr1 st1 kp1 rel1 t1 ap1 h => ?_)
  obtain ⟨t1, rfl⟩ := t1
  obtain ⟨qs, eq, h⟩ := h.opt
  split at h
  · rename_i hn
    obtain ⟨kvs, ek, h⟩ := h.opt
    obtain ⟨hp1, hz1⟩ := st1.keep p _ upd_same no
    have nz1 : ¬ Z1 p := fun z => nz (hz1 z)
    have no1 : ¬ Ow fp1 p := fun o => (st1.new p (.inl o)).elim no fun e => by rw [upd_same] at e; cases e
    obtain ⟨ms, em, el, ekv⟩ := put_go eq ek t1 (KvR.nil (K := S.K) (H := H1) (Z := Z1))
    refine ⟨hp1, ms, em, by rw [el]; exact of_decide_eq_true hn, ?_⟩
    refine h (.ref p) (upd H1 p (.dK (mergeK [] ms))) Z1 fp1 [p] ?_ .refl ?_ ⟨p, _, rfl, rfl, upd_same, ekv.mono (fun _ h => h) (fun a o z e => by rw [upd_ne fun q => nz1 (by rw [← q]; exact z)]; exact e), nz1⟩ fun x hx => by simp at hx; rw [hx]; exact no1
    · exact ⟨fun _ h => h, fun x o e n => ⟨by rw [upd_ne fun q => n (.inr (by simp [q]))]; exact e, fun z => z⟩, fun x o => .inl (o.elim .inl fun o => .inr (by simpa using o))⟩
    · exact rel1.other nz1 no1
  · exact h.elim
end
end Rf
end

-- text RfL
section
set_option Elab.async false
set_option linter.all false
set_option maxRecDepth 100000
set_option maxHeartbeats 4000000
/-! RfL: all terms are sound. -/
namespace Rf
open PySem PySem.Spec PyProof.Rows L2

theorem chk_few {C : Ck} : ∀ {es : Es} {xs : List Expr} (env : Env) (pos : Pos), chkEs C es xs = true → (backTo pos (starEach xs env)).all (fun x => !x.1) = true
  | .nil, [], _, _, _ => rfl
  | .nil, _ :: _, _, _, h => by simp [chkEs] at h
  | .cons _ _, [], _, _, h => by simp [chkEs] at h
  | .cons e r, y :: ys, env, pos, h => by
    simp only [chkEs, Bool.and_eq_true] at h
    rw [star_plain (chkE_nostar h.1)]
    have ih := chk_few env pos h.2
    unfold backTo at ih ⊢
    simp only [List.map_cons, List.all_cons, Bool.and_eq_true]
    exact ⟨rfl, ih⟩

theorem rdE_and {S : Sx} {es : Es} : ∀ σ H Q, rdE S (.and es) σ H Q → rdAnd S es σ H Q := fun σ H Q h => by
  obtain ⟨Z, env, fp, rel, h⟩ := h
  unfold evE at h
  exact ⟨Z, env, fp, rel, h⟩
theorem rdE_or {S : Sx} {es : Es} : ∀ σ H Q, rdE S (.or es) σ H Q → rdOr S es σ H Q := fun σ H Q h => by
  obtain ⟨Z, env, fp, rel, h⟩ := h
  unfold evE at h
  exact ⟨Z, env, fp, rel, h⟩
theorem rdT_and {S : Sx} {ts : Ts} : ∀ σ H Q, rdT S (.and ts) σ H Q → rdTA S ts σ H Q := fun σ H Q h => by
  obtain ⟨Z, env, fp, rel, h⟩ := h
  unfold evT at h
  exact ⟨Z, env, fp, rel, h⟩
theorem rdT_or {S : Sx} {ts : Ts} : ∀ σ H Q, rdT S (.or ts) σ H Q → rdTO S ts σ H Q := fun σ H Q h => by
  obtain ⟨Z, env, fp, rel, h⟩ := h
  unfold evT at h
  exact ⟨Z, env, fp, rel, h⟩
mutual
theorem okE : ∀ (e : E) {X : Cx} {C : Ck} {S : Sx} {x : Expr}, Cn X C S → chkE C e x = true → PE X x (rdE S e)
  | .var i, X, C, S, x, c, h => by
    cases x with
    | Name y pos =>
      simp only [chkE, chkN, Bool.and_eq_true, decide_eq_true_eq, Bool.not_eq_true'] at h
      exact ok_var c.K (by rw [c.N]; exact h.1.1.1) (c.vis h.1.1.2) h.1.2 h.2
    | _ => simp [chkE] at h
  | .int n, X, C, S, x, c, h => by
    cases x with
    | Constant v k pos =>
      cases v with
      | int m =>
        have : n = m := by simpa [chkE] using h
        subst this
        exact ok_cst c.K pe_int (fun env => by rw [evE]) fun H Z => .int n
      | _ => simp [chkE] at h
    | _ => simp [chkE] at h
  | .bl b, X, C, S, x, c, h => by
    cases x with
    | Constant v k pos =>
      cases v with
      | bool m =>
        have : b = m := by simpa [chkE] using h
        subst this
        exact ok_cst c.K pe_bl (fun env => by rw [evE]) fun H Z => .bl b
      | _ => simp [chkE] at h
    | _ => simp [chkE] at h
  | .non, X, C, S, x, c, h => by
    cases x with
    | Constant v k pos =>
      cases v with
      | none => exact ok_cst c.K pe_non (fun env => by rw [evE]) fun H Z => .non
      | _ => simp [chkE] at h
    | _ => simp [chkE] at h
  | .str s, X, C, S, x, c, h => by
    cases x with
    | Constant v k pos =>
      cases v with
      | str m =>
        simp only [chkE, Bool.and_eq_true, decide_eq_true_eq] at h
        obtain ⟨⟨rfl, h1⟩, h2⟩ := h
        exact ok_cst c.K pe_str (fun env => by rw [evE]) fun H Z => .str s ⟨sizeOk_le h1, h2⟩
      | _ => simp [chkE] at h
    | _ => simp [chkE] at h
  | .gbl n, X, C, S, x, c, h => by
    cases x with
    | Name y p =>
      simp only [chkE, Bool.and_eq_true, decide_eq_true_eq] at h
      obtain ⟨hg, hd⟩ := c.gl h.2
      exact ok_gbl c.K hg hd (c.gc n y h.1).1
    | _ => simp [chkE] at h
  | .any, X, C, S, x, c, h => ok_any
  | .gix n k, X, C, S, x, c, h => by
    cases x with
    | Subscript o z pos =>
      cases o with
      | Name y p =>
        simp only [chkE, Bool.and_eq_true, decide_eq_true_eq] at h
        obtain ⟨hg, hd⟩ := c.gl h.1.2
        exact ok_gix c.K hg hd (okE k c h.2) (ix_plain (chkE_noslice h.2)) (c.gc n y h.1.1).2
      | _ => simp [chkE] at h
    | _ => simp [chkE] at h
  | .rev a, X, C, S, x, c, h => by
    unfold chkE at h
    split at h
    · exact ok_rev c.K (okE a c h)
    · cases h
  | .dsp es, X, C, S, x, c, h => by
    cases x with
    | Dict ks vs pos =>
      simp only [chkE, Bool.and_eq_true, decide_eq_true_eq, Bool.not_eq_true'] at h
      obtain ⟨h1, h2, h3, h4⟩ := okPs es (pos := pos) c h.1.1
      exact ok_dsp c.K h1 h2 h3 h4 (fun e => by rw [e] at h; simp at h) h.2
    | _ => simp [chkE] at h
  | .mmd b a y, X, C, S, x, c, h => by
    unfold chkE at h
    split at h
    · rename_i z p u k v kp pos
      simp only [Bool.and_eq_true, decide_eq_true_eq] at h
      obtain ⟨⟨⟨⟨⟨h1, rfl⟩, h3⟩, rfl⟩, h5⟩, h6⟩ := h
      obtain ⟨hg, hd⟩ := c.gl h3
      have hb : b = .max ∨ b = .min := by cases b <;> first | exact .inl rfl | exact .inr rfl | cases h1
      exact ok_mmd c.K c.calm c.un hb hg (c.blt b) (okE a c h5) (okE y c h6) (chkE_nostar h5)
    · cases h
  | .bin o a b, X, C, S, x, c, h => by
    cases x with
    | BinOp l p r pos =>
      simp only [chkE, Bool.and_eq_true] at h
      have := opEq_eq h.1.1
      subst this
      exact ok_bin c.K (okE a c h.1.2) (okE b c h.2)
    | _ => simp [chkE] at h
  | .neg a, X, C, S, x, c, h => by
    cases x with
    | UnaryOp o y pos =>
      cases o with
      | USub => exact ok_neg c.K (okE a c (by simpa [chkE] using h))
      | _ => simp [chkE] at h
    | _ => simp [chkE] at h
  | .not a, X, C, S, x, c, h => by
    cases x with
    | UnaryOp o y pos =>
      cases o with
      | Not => exact ok_not c.K (okE a c (by simpa [chkE] using h))
      | _ => simp [chkE] at h
    | _ => simp [chkE] at h
  | .cmp o a b, X, C, S, x, c, h => by
    cases x with
    | Compare l ops rs pos =>
      rcases ops with _ | ⟨p, _ | ⟨p2, ps⟩⟩ <;> rcases rs with _ | ⟨r, _ | ⟨r2, rs⟩⟩ <;> (try (simp [chkE] at h; done))
      simp only [chkE, Bool.and_eq_true, Bool.not_eq_true'] at h
      have := cmpEq_eq h.1.1.1
      subst this
      exact ok_cmp c.K c.un (okE a c h.1.1.2) (okE b c h.1.2) h.2
    | _ => simp [chkE] at h
  | .chn o p a b d, X, C, S, x, c, h => by
    cases x with
    | Compare l ops rs pos =>
      rcases ops with _ | ⟨o', _ | ⟨p', _ | ⟨q', ps⟩⟩⟩ <;> rcases rs with _ | ⟨m, _ | ⟨r, _ | ⟨r2, rs⟩⟩⟩ <;> (try (simp [chkE] at h; done))
      simp only [chkE, Bool.and_eq_true, Bool.not_eq_true'] at h
      have e1 := cmpEq_eq h.1.1.1.1.1
      have e2 := cmpEq_eq h.1.1.1.1.2
      subst e1 e2
      exact ok_chn c.K c.un (okE a c h.1.1.1.2) (okE b c h.1.1.2) (okE d c h.1.2) h.2
    | _ => simp [chkE] at h
  | .and es, X, C, S, x, c, h => by
    cases x with
    | BoolOp o xs pos =>
      cases o with
      | And => exact (okAnd es c (by simpa [chkE] using h)).imp rdE_and
      | _ => simp [chkE] at h
    | _ => simp [chkE] at h
  | .or es, X, C, S, x, c, h => by
    cases x with
    | BoolOp o xs pos =>
      cases o with
      | Or => exact (okOr es c (by simpa [chkE] using h)).imp rdE_or
      | _ => simp [chkE] at h
    | _ => simp [chkE] at h
  | .ite t a b, X, C, S, x, c, h => by
    cases x with
    | IfExp u v w pos =>
      simp only [chkE, Bool.and_eq_true] at h
      exact ok_ite c.K (okT t c h.1.1) (okE a c h.1.2) (okE b c h.2)
    | _ => simp [chkE] at h
  | .tup es, X, C, S, x, c, h => by
    cases x with
    | Tuple xs k pos => exact ok_tup c.K (okDs es c (by simpa [chkE] using h))
    | _ => simp [chkE] at h
  | .lst es, X, C, S, x, c, h => by
    cases x with
    | List xs pos => exact ok_lst c.K (okDs es c (by simpa [chkE] using h))
    | _ => simp [chkE] at h
  | .idx a i, X, C, S, x, c, h => by
    cases x with
    | Subscript y z pos =>
      simp only [chkE, Bool.and_eq_true] at h
      exact ok_idx c.K (by have := c.un; omega) (okE a c h.1) (okE i c h.2) (ix_plain (chkE_noslice h.2))
    | _ => simp [chkE] at h
  | .slc a lo hi, X, C, S, x, c, h => by
    cases x with
    | Subscript y z pos =>
      cases z with
      | Slice l u st p2 =>
        cases st with
        | none =>
          simp only [chkE, Bool.and_eq_true] at h
          exact ok_slc c.K (okE a c h.1.1) (okO lo c h.1.2) (okO hi c h.2)
        | some _ => simp [chkE] at h
      | _ => simp [chkE] at h
    | _ => simp [chkE] at h
  | .app f es, X, C, S, x, c, h => by
    cases x with
    | Call fn xs kws pos =>
      cases fn with
      | Name y p =>
        cases kws with
        | nil =>
          simp only [chkE, Bool.and_eq_true, decide_eq_true_eq] at h
          obtain ⟨⟨h1, h2⟩, h3⟩ := h
          obtain ⟨hg, hd⟩ := c.gl h2
          obtain ⟨np, k, fa, fd, ps, hnp, F, hr, hm, hk, hb⟩ := c.calls f y h1
          cases xs with
          | nil =>
            cases es with
            | nil => exact ok_app0 c.K hnp F hr hg hm hk hb c.tk hd
            | cons _ _ => simp [chkEs] at h3
          | cons z zs =>
            have hA := okA es c h3
            cases es with
            | nil => simp [chkEs] at h3
            | cons e0 r0 =>
              have h4 := h3
              simp only [chkEs, Bool.and_eq_true] at h4
              exact ok_app c.K hnp F hr hg hm hk hb c.tk hA hd (star_plain (chkE_nostar h4.1) _ _) (chkEs_plain _ _ h4.2)
        | cons _ _ => simp [chkE] at h
      | _ => simp [chkE] at h
    | _ => simp [chkE] at h
  | .blt b es, X, C, S, x, c, h => by
    cases x with
    | Call fn xs kws pos =>
      cases fn with
      | Name y p =>
        cases kws with
        | nil =>
          cases xs with
          | nil => simp [chkE] at h
          | cons z zs =>
            simp only [chkE, Bool.and_eq_true, decide_eq_true_eq] at h
            obtain ⟨⟨rfl, h2⟩, h3⟩ := h
            obtain ⟨hg, hd⟩ := c.gl h2
            have hA := okA es c h3
            cases es with
            | nil => simp [chkEs] at h3
            | cons e0 r0 =>
              have h4 := h3
              simp only [chkEs, Bool.and_eq_true] at h4
              exact ok_blt c.K c.calm c.un hg (c.blt b) hA (star_plain (chkE_nostar h4.1) _ _) (chkEs_plain _ _ h4.2)
        | cons _ _ => simp [chkE] at h
      | _ => simp [chkE] at h
    | _ => simp [chkE] at h
  | .mut m i es, X, C, S, x, c, h => by
    cases x with
    | Call fn xs kws cpos =>
      cases fn with
      | Attribute o at_ apos =>
        cases o with
        | Name y p =>
          cases kws with
          | nil =>
            cases xs with
            | nil => simp [chkE] at h
            | cons z zs =>
              simp only [chkE, chkN, Bool.and_eq_true, decide_eq_true_eq, Bool.not_eq_true'] at h
              obtain ⟨⟨⟨⟨⟨⟨⟨⟨h1, rfl⟩, h3⟩, h4⟩, h5⟩, h6⟩, h7⟩, h8⟩, h9⟩ := h
              have hm : m = .append ∨ m = .extend := by
                cases m <;> first | exact .inl rfl | exact .inr rfl | cases h1
              have hD := okDs es c h7
              have hv : PE X (.Name y p) (tVar i) := pe_var (by rw [c.N]; exact h3) (c.vis h4) h5 h6
              cases es with
              | nil => simp [chkEs] at h7
              | cons e0 r0 =>
                have h10 := h7
                simp only [chkEs, Bool.and_eq_true] at h10
                have hs := star_plain (chkE_nostar h10.1) zs X.env
                have hp : (backTo cpos (starEach zs X.env)).any (·.1) = false := chkEs_plain _ _ h10.2
                have hfew : ((backTo cpos (starEach (z :: zs) X.env)).all (fun x => !x.1) && (backToKw cpos (keywordEach [] X.env)).all (fun x => x.1.isSome)
                    && decide ((z :: zs).length + ([] : List Keyword).length + (if ([] : List Keyword).isEmpty then 0 else 1) < 30)) = true := by
                  rw [chk_few X.env cpos h7, show (backToKw cpos (keywordEach [] X.env)).all (fun x => x.1.isSome) = true from rfl]
                  simpa using h9
                rcases hm with rfl | rfl
                · exact (pe_bm (name := "append") PySem.F.plainAttrs_list PySem.F.slot_list_append PySem.F.type_list_append mt_append hv hD rfl hfew h8 hs hp).imp fun σ H Q h => ok_mut_core c.K (.inl rfl) h
                · exact (pe_bm (name := "extend") PySem.F.plainAttrs_list PySem.F.slot_list_extend PySem.F.type_list_extend mt_extG hv hD rfl hfew h8 hs hp).imp fun σ H Q h => ok_mut_core c.K (.inr rfl) h
          | cons _ _ => simp [chkE] at h
        | _ => simp [chkE] at h
      | _ => simp [chkE] at h
    | _ => simp [chkE] at h
  | .mth m o es, X, C, S, x, c, h => by
    cases x with
    | Call fn xs kws cpos =>
      cases fn with
      | Attribute y at_ apos =>
        cases kws with
        | nil =>
          cases xs with
          | nil => simp [chkE] at h
          | cons z zs =>
            simp only [chkE, Bool.and_eq_true, decide_eq_true_eq] at h
            obtain ⟨⟨⟨⟨⟨⟨h1, rfl⟩, h3⟩, h4⟩, h5⟩, h6⟩, h7⟩ := h
            have hO := okE o c h4
            have hA := okA es c h5
            cases es with
            | nil => simp [chkEs] at h5
            | cons e0 r0 =>
              have h10 := h5
              simp only [chkEs, Bool.and_eq_true] at h10
              have hs := star_plain (chkE_nostar h10.1) zs X.env
              have hp : (backTo cpos (starEach zs X.env)).any (·.1) = false := chkEs_plain _ _ h10.2
              have hfew : ((backTo cpos (starEach (z :: zs) X.env)).all (fun x => !x.1) && (backToKw cpos (keywordEach [] X.env)).all (fun x => x.1.isSome)
                  && decide ((z :: zs).length + ([] : List Keyword).length + (if ([] : List Keyword).isEmpty then 0 else 1) < 30)) = true := by
                rw [chk_few X.env cpos h5, show (backToKw cpos (keywordEach [] X.env)).all (fun x => x.1.isSome) = true from rfl]
                simpa using h7
              have hb : ∀ nm, attributeBase y nm X.env (eval y X.env) = eval y X.env := fun nm => recv_base h3 nm X.env
              cases m with
              | startswith => exact (pe_bm (name := "startswith") PySem.F.plainAttrs_str PySem.F.slot_str_startswith PySem.F.type_str_startswith mt_startD hO hA (hb _) hfew h6 hs hp).imp fun σ H Q h => ok_mth_core c.K h
              | endswith => exact (pe_bm (name := "endswith") PySem.F.plainAttrs_str PySem.F.slot_str_endswith PySem.F.type_str_endswith mt_endD hO hA (hb _) hfew h6 hs hp).imp fun σ H Q h => ok_mth_core c.K h
              | index => exact (pe_bm (name := "index") PySem.F.plainAttrs_str PySem.F.slot_str_index PySem.F.type_str_index mt_indexD hO hA (hb _) hfew h6 hs hp).imp fun σ H Q h => ok_mth_core c.K h
              | join => exact (pe_bm (name := "join") PySem.F.plainAttrs_str PySem.F.slot_str_join PySem.F.type_str_join mt_joinD hO hA (hb _) hfew h6 hs hp).imp fun σ H Q h => ok_mth_core c.K h
              | split => exact (pe_bm (name := "split") PySem.F.plainAttrs_str PySem.F.slot_str_split PySem.F.type_str_split mt_splitD hO hA (hb _) hfew h6 hs hp).imp fun σ H Q h => ok_mth_core c.K h
              | _ => cases h1
        | cons _ _ => simp [chkE] at h
      | _ => simp [chkE] at h
    | _ => simp [chkE] at h
  | .dct a, X, C, S, x, c, h => by
    unfold chkE at h
    split at h
    · rename_i y p z pos
      simp only [Bool.and_eq_true, decide_eq_true_eq] at h
      obtain ⟨⟨rfl, h2⟩, h3⟩ := h
      exact ok_dct c.K c.calm (c.gl h2).1 (c.blt .dict) (okE a c h3) (star_plain (chkE_nostar h3) _ _)
    · cases h
  | .dgx d k y, X, C, S, x, c, h => by
    unfold chkE at h
    split at h
    · rename_i ks vs pd at_ apos u w cpos
      simp only [Bool.and_eq_true, decide_eq_true_eq] at h
      obtain ⟨⟨⟨⟨rfl, h4⟩, h5⟩, h6⟩, h7⟩ := h
      have s1 := star_plain (chkE_nostar h5) [w] X.env
      have s2 := star_plain (chkE_nostar h6) [] X.env
      have hst : starEach [u, w] X.env = [(false, eval u X.env), (false, eval w X.env)] := by rw [s1, s2]; rfl
      exact (pe_dget2 (by have := c.un; omega) (okE d c h4) (okE k c h5) (okE y c h6) ⟨rfl, by rw [hst]; rfl, h7, by rw [hst]; rfl⟩).imp fun σ H Q h => ok_dgx_core c.K h
    · cases h
  | .tmi o a, X, C, S, x, c, h => by
    unfold chkE at h
    split at h
    · rename_i y at_ apos z cpos
      simp only [Bool.and_eq_true, decide_eq_true_eq] at h
      obtain ⟨⟨⟨⟨rfl, h3⟩, h4⟩, h5⟩, h6⟩ := h
      exact ok_tmi c.K (okE o c h4) (okE a c h5) (recv_base h3 _ X.env) h6 (star_plain (chkE_nostar h5) _ _)
    · cases h
  | .isi a t, X, C, S, x, c, h => by
    unfold chkE at h
    split at h
    · rename_i y p1 z u p2 pos
      simp only [Bool.and_eq_true, decide_eq_true_eq] at h
      obtain ⟨⟨⟨⟨rfl, h2⟩, h3⟩, rfl⟩, h5⟩ := h
      obtain ⟨hg, hd⟩ := c.gl h2
      obtain ⟨hg2, hd2⟩ := c.gl h5
      have hm : X.mg t.nm = none := by
        cases t with
        | int => exact c.blt .int
        | bool => exact c.bl
        | str => exact c.blt .str
        | tuple => exact c.blt .tuple
        | list => exact c.blt .list
      exact ok_isi c.K hg c.ii hg2 hm hd2 (okE a c h3) (star_plain (chkE_nostar h3) _ _)
    · cases h
  | .cpr e t it k own, X, C, S, x, c, h => by
    cases x with
    | ListComp elt gs scope pos =>
      rcases gs with _ | ⟨⟨tg, iter, ifs, as_⟩, _ | ⟨g2, gs⟩⟩ <;> (try (simp [chkE] at h; done))
      simp only [chkE, Bool.and_eq_true, decide_eq_true_eq] at h
      obtain ⟨⟨⟨⟨⟨⟨rfl, h1⟩, h2⟩, h3⟩, h4⟩, h5⟩, h6⟩ := h
      have ho : ∀ i ∈ tgs t, i ∈ own := fun i hi => by
        have := List.all_eq_true.mp h1 i hi
        simpa using this
      have ok : BlkOk X.N X.env.scope scope (ownN C own) := by rw [c.N, c.sc]; exact blkOk_by h3
      have q := pe_lc (X := X) (own := ownN C own) (pos := pos) c.calm c.nd (okI it (tg := tg) c h2) ok
        (fun s H A cl fp => ok_tg (S := S.blk) (c.blk s H scope A cl fp).K (c.blk s H scope A cl fp).N (c.blk s H scope A cl fp).nd (c.blk s H scope A cl fp).sc (c.blk s H scope A cl fp).fn (c.blk s H scope A cl fp).calm h4)
        (fun s H A cl fp => okOt k (c.blk s H scope A cl fp) h5) (fun s H A cl fp => okE e (c.blk s H scope A cl fp) h6) (folded_plain (chkI_noset h2) _)
      rw [ownN_snd] at q
      exact q.imp fun σ H Q h => ok_cpr_core c.K (S' := S.blk) rfl rfl ho h
    | _ => simp [chkE] at h
  | .dnew, X, C, S, x, c, h => by
    unfold chkE at h
    split at h
    · exact ok_dnew c.K
    · cases h
  | .dcp k v t it kt own, X, C, S, x, c, h => by
    cases x with
    | DictComp kx vx gs scope pos =>
      rcases gs with _ | ⟨⟨tg, iter, ifs, as_⟩, _ | ⟨g2, gs⟩⟩ <;> (try (simp [chkE] at h; done))
      simp only [chkE, Bool.and_eq_true, decide_eq_true_eq] at h
      obtain ⟨⟨⟨⟨⟨⟨⟨rfl, h1⟩, h2⟩, h3⟩, h4⟩, h5⟩, h6⟩, h7⟩ := h
      have ho : ∀ i ∈ tgs t, i ∈ own := fun i hi => by
        have := List.all_eq_true.mp h1 i hi
        simpa using this
      have ok : BlkOk X.N X.env.scope scope (ownN C own) := by rw [c.N, c.sc]; exact blkOk_by h3
      have q := pe_dc (X := X) (own := ownN C own) (pos := pos) c.calm c.nd (okI it (tg := tg) c h2) ok
        (fun s H A cl fp => ok_tg (S := S.blk) (c.blk s H scope A cl fp).K (c.blk s H scope A cl fp).N (c.blk s H scope A cl fp).nd (c.blk s H scope A cl fp).sc (c.blk s H scope A cl fp).fn (c.blk s H scope A cl fp).calm h4)
        (fun s H A cl fp => okOt kt (c.blk s H scope A cl fp) h5) (fun s H A cl fp => okE k (c.blk s H scope A cl fp) h6) (fun s H A cl fp => okE v (c.blk s H scope A cl fp) h7) (folded_plain (chkI_noset h2) _)
      rw [ownN_snd] at q
      exact q.imp fun σ H Q h => ok_dcp_core c.K (S' := S.blk) rfl rfl ho h
    | _ => simp [chkE] at h
  | .dget i k y, X, C, S, x, c, h => by
    unfold chkE at h
    split at h
    · rename_i z p1 at_ apos u w cpos
      simp only [chkN, Bool.and_eq_true, decide_eq_true_eq, Bool.not_eq_true'] at h
      obtain ⟨⟨⟨⟨⟨⟨⟨rfl, h1⟩, h2⟩, h3⟩, h4⟩, h5⟩, h6⟩, h7⟩ := h
      have hv : PE X (.Name z p1) (tVar i) := pe_var (by rw [c.N]; exact h1) (c.vis h2) h3 h4
      have s1 := star_plain (chkE_nostar h5) [w] X.env
      have s2 := star_plain (chkE_nostar h6) [] X.env
      have hst : starEach [u, w] X.env = [(false, eval u X.env), (false, eval w X.env)] := by rw [s1, s2]; rfl
      exact (pe_dget2 (by have := c.un; omega) hv (okE k c h5) (okE y c h6) ⟨rfl, by rw [hst]; rfl, h7, by rw [hst]; rfl⟩).imp fun σ H Q h => ok_dget_core c.K h
    · cases h
  | .cp2 e t it k t1 it1 k1 own own1, X, C, S, x, c, h => by
    cases x with
    | ListComp elt gs scope pos =>
      rcases gs with _ | ⟨⟨tg, iter, ifs, as_⟩, _ | ⟨⟨tg1, iter1, ifs1, as1⟩, _ | ⟨g3, gs⟩⟩⟩ <;> (try (simp [chkE] at h; done))
      simp only [chkE, Bool.and_eq_true, decide_eq_true_eq] at h
      obtain ⟨⟨⟨⟨⟨⟨⟨⟨⟨⟨⟨⟨rfl, rfl⟩, h1⟩, h1b⟩, h1c⟩, h2⟩, h3⟩, h4⟩, h5⟩, h6⟩, h7⟩, h8⟩, h9⟩ := h
      have ho : ∀ i ∈ tgs t, i ∈ own := fun i hi => by
        have := List.all_eq_true.mp h1 i hi
        simpa using this
      have ho1 : ∀ i ∈ tgs t1, i ∈ own1 := fun i hi => by
        have := List.all_eq_true.mp h1b i hi
        simpa using this
      have hin : ∀ i ∈ own1, i ∈ own := fun i hi => by
        have := List.all_eq_true.mp h1c i hi
        simpa using this
      have ok : BlkOk X.N X.env.scope scope (ownN C own) := by rw [c.N, c.sc]; exact blkOk_by h3
      have q := pe_lc2 (X := X) (own := ownN C own) (vs1 := own1) (pos := pos) c.calm c.nd (okI it (tg := tg) c h2) ok (by rw [ownN_snd]; exact hin)
        (fun s H A cl fp => ok_tg (S := S.blk) (c.blk s H scope A cl fp).K (c.blk s H scope A cl fp).N (c.blk s H scope A cl fp).nd (c.blk s H scope A cl fp).sc (c.blk s H scope A cl fp).fn (c.blk s H scope A cl fp).calm h4)
        (fun s H A cl fp => okOt k (c.blk s H scope A cl fp) h5) (fun s H A cl fp => okI it1 (tg := tg1) (c.blk s H scope A cl fp) h6)
        (fun s H A cl fp => ok_tg (S := S.blk) (c.blk s H scope A cl fp).K (c.blk s H scope A cl fp).N (c.blk s H scope A cl fp).nd (c.blk s H scope A cl fp).sc (c.blk s H scope A cl fp).fn (c.blk s H scope A cl fp).calm h7)
        (fun s H A cl fp => okOt k1 (c.blk s H scope A cl fp) h8) (fun s H A cl fp => okE e (c.blk s H scope A cl fp) h9) (folded_plain (chkI_noset h2) _) (fun env => folded_plain (chkI_noset h6) env)
      rw [ownN_snd] at q
      exact q.imp fun σ H Q h => ok_cp2_core c.K (S' := S.blk) rfl rfl ho ho1 hin h
    | _ => simp [chkE] at h
  | .tnew, X, C, S, x, c, h => by
    unfold chkE at h
    split at h
    · exact ok_tnew c.K
    · cases h
  | .pop i, X, C, S, x, c, h => by
    unfold chkE at h
    split at h
    · rename_i z p1 at_ apos cpos
      simp only [chkN, Bool.and_eq_true, decide_eq_true_eq, Bool.not_eq_true'] at h
      obtain ⟨⟨⟨⟨⟨rfl, h1⟩, h2⟩, h3⟩, h4⟩, h7⟩ := h
      have hv : PE X (.Name z p1) (tVar i) := pe_var (by rw [c.N]; exact h1) (c.vis h2) h3 h4
      exact (pe_bm0 (name := "pop") PySem.F.plainAttrs_list PySem.F.slot_list_pop PySem.F.type_list_pop mt_pop hv rfl h7).imp fun σ H Q h => ok_pop_core c.K h
    · cases h
  | .tin ng k i, X, C, S, x, c, h => by
    unfold chkE at h
    split at h
    · rename_i l p z p1 pos
      simp only [chkN, Bool.and_eq_true, decide_eq_true_eq, Bool.not_eq_true'] at h
      obtain ⟨⟨⟨⟨⟨h0, h1⟩, h2⟩, h3⟩, h4⟩, h5⟩ := h
      have := cmpEq_eq h0
      subst this
      exact ok_tin c.K (by have := c.un; omega) (ng := ng) (okE k c h1) (pe_var (by rw [c.N]; exact h2) (c.vis h3) h4 h5) (by cases ng <;> rfl)
    · cases h
  | .tix i k, X, C, S, x, c, h => by
    unfold chkE at h
    split at h
    · rename_i z p1 y pos
      simp only [chkN, Bool.and_eq_true, decide_eq_true_eq, Bool.not_eq_true'] at h
      obtain ⟨⟨⟨⟨h1, h2⟩, h3⟩, h4⟩, h5⟩ := h
      have hv : PE X (.Name z p1) (tVar i) := pe_var (by rw [c.N]; exact h1) (c.vis h2) h3 h4
      exact (pe_ix (ix_dict (by have := c.un; omega)) hv (okE k c h5) (ix_plain (chkE_noslice h5))).imp fun σ H Q h => ok_tix_core c.K h
    · cases h
  | .tget i k y, X, C, S, x, c, h => by
    unfold chkE at h
    split at h
    · rename_i z p1 at_ apos u w cpos
      simp only [chkN, Bool.and_eq_true, decide_eq_true_eq, Bool.not_eq_true'] at h
      obtain ⟨⟨⟨⟨⟨⟨⟨rfl, h1⟩, h2⟩, h3⟩, h4⟩, h5⟩, h6⟩, h7⟩ := h
      have hv : PE X (.Name z p1) (tVar i) := pe_var (by rw [c.N]; exact h1) (c.vis h2) h3 h4
      have s1 := star_plain (chkE_nostar h5) [w] X.env
      have s2 := star_plain (chkE_nostar h6) [] X.env
      have hst : starEach [u, w] X.env = [(false, eval u X.env), (false, eval w X.env)] := by rw [s1, s2]; rfl
      exact (pe_dget2 (by have := c.un; omega) hv (okE k c h5) (okE y c h6) ⟨rfl, by rw [hst]; rfl, h7, by rw [hst]; rfl⟩).imp fun σ H Q h => ok_tget_core c.K h
    · cases h
theorem okDs : ∀ (es : Es) {X : Cx} {C : Ck} {S : Sx} {xs : List Expr}, Cn X C S → chkEs C es xs = true → PA X xs (rdDs S es)
  | .nil, X, C, S, [], c, _ => ok_Ds_nil c.K
  | .nil, X, C, S, _ :: _, c, h => by simp [chkEs] at h
  | .cons e r, X, C, S, [], c, h => by simp [chkEs] at h
  | .cons e r, X, C, S, y :: ys, c, h => by
    simp only [chkEs, Bool.and_eq_true] at h
    exact ok_Ds_cons c.K (okE e c h.1) (okDs r c h.2) (star_plain (chkE_nostar h.1) _ _)
theorem okA : ∀ (es : Es) {X : Cx} {C : Ck} {S : Sx} {xs : List Expr}, Cn X C S → chkEs C es xs = true → PA X xs (rdA S es)
  | .nil, X, C, S, [], c, _ => ok_A_nil c.K
  | .nil, X, C, S, _ :: _, c, h => by simp [chkEs] at h
  | .cons e r, X, C, S, [], c, h => by simp [chkEs] at h
  | .cons e r, X, C, S, y :: ys, c, h => by
    simp only [chkEs, Bool.and_eq_true] at h
    exact ok_A_cons c.K (okE e c h.1) (okA r c h.2) (star_plain (chkE_nostar h.1) _ _)
theorem okAnd : ∀ (es : Es) {X : Cx} {C : Ck} {S : Sx} {xs : List Expr} {pos : Pos}, Cn X C S → chkEs C es xs = true → PE X (.BoolOp .And xs pos) (rdAnd S es)
  | .nil, X, C, S, xs, pos, c, h => ⟨fun pins s σ H Q I q => by
      obtain ⟨Z, env, fp, rel, q⟩ := q
      unfold evAnd at q
      exact q.elim⟩
  | .cons e .nil, X, C, S, xs, pos, c, h => by
    rcases xs with _ | ⟨y, _ | ⟨z, ys⟩⟩ <;> simp [chkEs] at h
    exact ok_and_one c.K (okE e c h)
  | .cons e (.cons f r), X, C, S, xs, pos, c, h => by
    rcases xs with _ | ⟨y, _ | ⟨z, ys⟩⟩ <;> (try (simp [chkEs] at h; done))
    have h1 : chkE C e y = true ∧ chkEs C (.cons f r) (z :: ys) = true := by
      simp only [chkEs, Bool.and_eq_true] at h ⊢
      exact h
    exact ok_and_cons c.K (okE e c h1.1) (okAnd (.cons f r) c h1.2)
theorem okOr : ∀ (es : Es) {X : Cx} {C : Ck} {S : Sx} {xs : List Expr} {pos : Pos}, Cn X C S → chkEs C es xs = true → PE X (.BoolOp .Or xs pos) (rdOr S es)
  | .nil, X, C, S, xs, pos, c, h => ⟨fun pins s σ H Q I q => by
      obtain ⟨Z, env, fp, rel, q⟩ := q
      unfold evOr at q
      exact q.elim⟩
  | .cons e .nil, X, C, S, xs, pos, c, h => by
    rcases xs with _ | ⟨y, _ | ⟨z, ys⟩⟩ <;> simp [chkEs] at h
    exact ok_or_one c.K (okE e c h)
  | .cons e (.cons f r), X, C, S, xs, pos, c, h => by
    rcases xs with _ | ⟨y, _ | ⟨z, ys⟩⟩ <;> (try (simp [chkEs] at h; done))
    have h1 : chkE C e y = true ∧ chkEs C (.cons f r) (z :: ys) = true := by
      simp only [chkEs, Bool.and_eq_true] at h ⊢
      exact h
    exact ok_or_cons c.K (okE e c h1.1) (okOr (.cons f r) c h1.2)
theorem okPs : ∀ (es : Es) {X : Cx} {C : Ck} {S : Sx} {ks : List (Option Expr)} {vs : List Expr} {pos : Pos}, Cn X C S → chkPs C es ks vs = true → PPs X pos ks vs (trsOf S es) ∧ evenEs es = true ∧ ks.all (·.isSome) = true ∧ ks.length = vs.length
  | .nil, X, C, S, ks, vs, pos, c, h => by
    simp only [chkPs, Bool.and_eq_true, List.isEmpty_iff] at h
    obtain ⟨rfl, rfl⟩ := h
    exact ⟨pps_nil, rfl, rfl, rfl⟩
  | .cons _ .nil, X, C, S, ks, vs, pos, c, h => by simp [chkPs] at h
  | .cons k (.cons v r), X, C, S, ks, vs, pos, c, h => by
    unfold chkPs at h
    split at h
    · rename_i x xs y ys
      simp only [Bool.and_eq_true] at h
      obtain ⟨h1, h2, h3, h4⟩ := okPs r (pos := pos) c h.2
      exact ⟨pps_cons (okE k c h.1.1) (okE v c h.1.2) h1, by simpa [evenEs] using h2, by simpa using h3, by simp [h4]⟩
    · cases h
theorem okO : ∀ (e : Oe) {X : Cx} {C : Ck} {S : Sx} {x : Option Expr}, Cn X C S → chkO C e x = true → PO X x (rdO S e)
  | .no, X, C, S, none, c, _ => ok_O_no c.K
  | .no, X, C, S, some _, c, h => by simp [chkO] at h
  | .yes e, X, C, S, none, c, h => by simp [chkO] at h
  | .yes e, X, C, S, some y, c, h => ok_O_yes c.K (okE e c (by simpa [chkO] using h))
theorem okI : ∀ (it : Itr) {X : Cx} {C : Ck} {S : Sx} {tg x : Expr}, Cn X C S → chkI C (isTupE tg) it x = true → PI X tg x (rdI S it)
  | .seq e, X, C, S, tg, x, c, h => ok_I_seq c.K (okE e c (by simpa [chkI] using h))
  | .rng es, X, C, S, tg, x, c, h => by
    cases x with
    | Call fn xs kws pos =>
      cases fn with
      | Name y p =>
        cases kws with
        | nil =>
          simp only [chkI, Bool.and_eq_true, decide_eq_true_eq] at h
          obtain ⟨⟨⟨hle, rfl⟩, h2⟩, h3⟩ := h
          obtain ⟨hg, hd⟩ := c.gl h2
          have hD := okDs es c h3
          have hm : X.mg "range" = none := c.blt .range
          rcases xs with _ | ⟨a, _ | ⟨b, _ | ⟨d, xs⟩⟩⟩
          · exact PI.mk fun pins s σ H Q I q => by
              obtain ⟨Z, env, fp, rel, q⟩ := rng_core c.K h3 q
              cases es with
              | nil =>
                unfold evDs at q
                have q := q.now rel .refl rel.zs (fr := []) (by simp) (show tDs S [] [] H Z env [] from ⟨.nil, rfl⟩)
                rcases q with ⟨j, hl, e, _⟩ | ⟨i, j, hl, e, _⟩ | ⟨i, j, hl, e, _⟩ <;> cases e
              | cons _ _ => simp [chkEs] at h3
          · cases es with
            | nil => simp [chkEs] at h3
            | cons e0 r0 =>
              have h4 := h3
              simp only [chkEs, Bool.and_eq_true] at h4
              exact ok_I_rng1 c.K h3 hg hm hD (star_plain (chkE_nostar h4.1) _ _)
          · cases es with
            | nil => simp [chkEs] at h3
            | cons e0 r0 =>
              cases r0 with
              | nil => simp [chkEs] at h3
              | cons e1 r1 =>
                have h4 := h3
                simp only [chkEs, Bool.and_eq_true] at h4
                have s2 := star_plain (chkE_nostar h4.2.1) [] X.env
                exact ok_I_rng2 c.K h3 hg hm hD (by rw [star_plain (chkE_nostar h4.1), s2]; rfl) s2
          · cases xs with
            | cons _ _ => simp at hle
            | nil =>
              cases es with
              | nil => simp [chkEs] at h3
              | cons e0 r0 =>
                cases r0 with
                | nil => simp [chkEs] at h3
                | cons e1 r1 =>
                  cases r1 with
                  | nil => simp [chkEs] at h3
                  | cons e2 r2 =>
                    have h4 := h3
                    simp only [chkEs, Bool.and_eq_true] at h4
                    exact ok_I_rng3 c.K h3 hg hm hD (star_plain (chkE_nostar h4.1) _ _) (by rw [star_plain (chkE_nostar h4.2.1), star_plain (chkE_nostar h4.2.2.1)]; rfl)
        | cons _ _ => simp [chkI] at h
      | _ => simp [chkI] at h
    | _ => simp [chkI] at h
  | .enu e, X, C, S, tg, x, c, h => by
    cases x with
    | Call fn xs kws pos =>
      cases fn with
      | Name y p =>
        cases kws with
        | nil =>
          rcases xs with _ | ⟨u, _ | ⟨v, xs⟩⟩ <;> (try (simp [chkI] at h; done))
          simp only [chkI, Bool.and_eq_true, decide_eq_true_eq] at h
          obtain ⟨⟨⟨rfl, h2⟩, h3⟩, h5⟩ := h
          obtain ⟨hg, hd⟩ := c.gl h2
          cases tg with
          | Tuple elts kk tpos => exact ok_I_enu c.K hg c.en (okE e c h3) (chkE_nostar h3)
          | _ => simp [isTupE] at h5
        | cons _ _ => simp [chkI] at h
      | _ => simp [chkI] at h
    | _ => simp [chkI] at h
  | .zip a b, X, C, S, tg, x, c, h => by
    cases x with
    | Call fn xs kws pos =>
      cases fn with
      | Name y p =>
        cases kws with
        | nil =>
          rcases xs with _ | ⟨u, _ | ⟨v, _ | ⟨w, xs⟩⟩⟩ <;> (try (simp [chkI] at h; done))
          simp only [chkI, Bool.and_eq_true, decide_eq_true_eq] at h
          obtain ⟨⟨⟨⟨rfl, h2⟩, h3⟩, h4⟩, h5⟩ := h
          obtain ⟨hg, hd⟩ := c.gl h2
          cases tg with
          | Tuple elts kk tpos => exact ok_I_zip c.K hg c.zp (okE a c h3) (okE b c h4) (chkE_nostar h3) (chkE_nostar h4)
          | _ => simp [isTupE] at h5
        | cons _ _ => simp [chkI] at h
      | _ => simp [chkI] at h
    | _ => simp [chkI] at h
  | .kys i, X, C, S, tg, x, c, h => by
    unfold chkI at h
    split at h
    · rename_i z p1
      simp only [chkN, Bool.and_eq_true, decide_eq_true_eq, Bool.not_eq_true'] at h
      obtain ⟨⟨⟨h1, h2⟩, h3⟩, h4⟩ := h
      exact ok_I_kys c.K (pe_var (by rw [c.N]; exact h1) (c.vis h2) h3 h4)
    · cases h
  | .zpm a b, X, C, S, tg, x, c, h => by
    cases x with
    | Call fn xs kws pos =>
      cases fn with
      | Name y p =>
        cases kws with
        | nil =>
          rcases xs with _ | ⟨u, _ | ⟨v, _ | ⟨w, xs⟩⟩⟩ <;> (try (simp [chkI] at h; done))
          simp only [chkI, Bool.and_eq_true, decide_eq_true_eq] at h
          obtain ⟨⟨⟨⟨rfl, h2⟩, h3⟩, h4⟩, h5⟩ := h
          obtain ⟨hg, hd⟩ := c.gl h2
          cases tg with
          | Tuple elts kk tpos => exact ok_I_zpm c.K hg c.zp (okE a c h3) (okE b c h4) (chkE_nostar h3) (chkE_nostar h4)
          | _ => simp [isTupE] at h5
        | cons _ _ => simp [chkI] at h
      | _ => simp [chkI] at h
    | _ => simp [chkI] at h
theorem okT : ∀ (t : T) {X : Cx} {C : Ck} {S : Sx} {x : Expr}, Cn X C S → chkT C t x = true → PT X x (rdT S t)
  | .val (.cmp o a b), X, C, S, x, c, h => by
    have h : chkE C (.cmp o a b) x = true := by
      simp only [chkT, Bool.and_eq_true] at h
      exact h.1
    cases x with
    | Compare l ops rs pos =>
      rcases ops with _ | ⟨p, _ | ⟨p2, ps⟩⟩ <;> rcases rs with _ | ⟨r, _ | ⟨r2, rs⟩⟩ <;> (try (simp [chkE] at h; done))
      simp only [chkE, Bool.and_eq_true, Bool.not_eq_true'] at h
      have := cmpEq_eq h.1.1.1
      subst this
      exact ok_T_cmp c.K c.un (okE a c h.1.1.2) (okE b c h.1.2) h.2
    | _ => simp [chkE] at h
  | .val (.chn o p a b d), X, C, S, x, c, h => by
    have h : chkE C (.chn o p a b d) x = true := by
      simp only [chkT, Bool.and_eq_true] at h
      exact h.1
    cases x with
    | Compare l ops rs pos =>
      rcases ops with _ | ⟨o', _ | ⟨p', _ | ⟨q', ps⟩⟩⟩ <;> rcases rs with _ | ⟨m, _ | ⟨r, _ | ⟨r2, rs⟩⟩⟩ <;> (try (simp [chkE] at h; done))
      simp only [chkE, Bool.and_eq_true, Bool.not_eq_true'] at h
      have e1 := cmpEq_eq h.1.1.1.1.1
      have e2 := cmpEq_eq h.1.1.1.1.2
      subst e1 e2
      exact ok_T_chn c.K c.un (okE a c h.1.1.1.2) (okE b c h.1.1.2) (okE d c h.1.2) h.2
    | _ => simp [chkE] at h
  | .val (.tin ng k i), X, C, S, x, c, h => by
    have h : chkE C (.tin ng k i) x = true := by
      simp only [chkT, Bool.and_eq_true] at h
      exact h.1
    unfold chkE at h
    split at h
    · rename_i l p z p1 pos
      simp only [chkN, Bool.and_eq_true, decide_eq_true_eq, Bool.not_eq_true'] at h
      obtain ⟨⟨⟨⟨⟨h0, h1⟩, h2⟩, h3⟩, h4⟩, h5⟩ := h
      have := cmpEq_eq h0
      subst this
      exact ok_T_tin c.K (by have := c.un; omega) (ng := ng) (okE k c h1) (pe_var (by rw [c.N]; exact h2) (c.vis h3) h4 h5) (by cases ng <;> rfl)
    · cases h
  | .val e, X, C, S, x, c, h => by
    simp only [chkT, Bool.and_eq_true, Bool.or_eq_true] at h
    by_cases hp : plainT x = true
    · exact ok_T_val c.K (okE e c h.1) hp
    · have hc : isCmp e = true := h.2.resolve_left hp
      cases e <;> first | (simp [isCmp] at hc; done) | skip
      · rename_i o a b
        have h := h.1
        cases x with
        | Compare l ops rs pos =>
          rcases ops with _ | ⟨p, _ | ⟨p2, ps⟩⟩ <;> rcases rs with _ | ⟨r, _ | ⟨r2, rs⟩⟩ <;> (try (simp [chkE] at h; done))
          simp only [chkE, Bool.and_eq_true, Bool.not_eq_true'] at h
          have := cmpEq_eq h.1.1.1
          subst this
          exact ok_T_cmp c.K c.un (okE a c h.1.1.2) (okE b c h.1.2) h.2
        | _ => simp [chkE] at h
      · rename_i o p a b d
        have h := h.1
        cases x with
        | Compare l ops rs pos =>
          rcases ops with _ | ⟨o', _ | ⟨p', _ | ⟨q', ps⟩⟩⟩ <;> rcases rs with _ | ⟨m, _ | ⟨r, _ | ⟨r2, rs⟩⟩⟩ <;> (try (simp [chkE] at h; done))
          simp only [chkE, Bool.and_eq_true, Bool.not_eq_true'] at h
          have e1 := cmpEq_eq h.1.1.1.1.1
          have e2 := cmpEq_eq h.1.1.1.1.2
          subst e1 e2
          exact ok_T_chn c.K c.un (okE a c h.1.1.1.2) (okE b c h.1.1.2) (okE d c h.1.2) h.2
        | _ => simp [chkE] at h
      · rename_i ng k i
        have h := h.1
        unfold chkE at h
        split at h
        · rename_i l p z p1 pos
          simp only [chkN, Bool.and_eq_true, decide_eq_true_eq, Bool.not_eq_true'] at h
          obtain ⟨⟨⟨⟨⟨h0, h1⟩, h2⟩, h3⟩, h4⟩, h5⟩ := h
          have := cmpEq_eq h0
          subst this
          exact ok_T_tin c.K (by have := c.un; omega) (ng := ng) (okE k c h1) (pe_var (by rw [c.N]; exact h2) (c.vis h3) h4 h5) (by cases ng <;> rfl)
        · cases h
  | .any, X, C, S, x, c, h => ok_T_any
  | .and ts, X, C, S, x, c, h => by
    cases x with
    | BoolOp o xs pos =>
      cases o with
      | And => exact (okTA ts (pos := pos) c (by simpa [chkT] using h)).pt.imp rdT_and
      | _ => simp [chkT] at h
    | _ => simp [chkT] at h
  | .or ts, X, C, S, x, c, h => by
    cases x with
    | BoolOp o xs pos =>
      cases o with
      | Or => exact (okTO ts (pos := pos) c (by simpa [chkT] using h)).pt.imp rdT_or
      | _ => simp [chkT] at h
    | _ => simp [chkT] at h
  | .not t, X, C, S, x, c, h => by
    cases x with
    | UnaryOp o y pos =>
      cases o with
      | Not => exact ok_T_not c.K (okT t c (by simpa [chkT] using h))
      | _ => simp [chkT] at h
    | _ => simp [chkT] at h
theorem okTA : ∀ (ts : Ts) {X : Cx} {C : Ck} {S : Sx} {xs : List Expr} {pos : Pos}, Cn X C S → chkTs C ts xs = true → PW X (.BoolOp .And xs pos) (rdTA S ts)
  | .one t, X, C, S, xs, pos, c, h => by
    rcases xs with _ | ⟨y, _ | ⟨z, ys⟩⟩ <;> simp [chkTs] at h
    exact ok_TA_one c.K (okT t c h)
  | .cons t r, X, C, S, xs, pos, c, h => by
    rcases xs with _ | ⟨y, _ | ⟨z, ys⟩⟩ <;> (try (simp [chkTs] at h; done))
    simp only [chkTs, Bool.and_eq_true] at h
    exact ok_TA_cons c.K (okT t c h.1) (okTA r c h.2)
theorem okTO : ∀ (ts : Ts) {X : Cx} {C : Ck} {S : Sx} {xs : List Expr} {pos : Pos}, Cn X C S → chkTs C ts xs = true → PW X (.BoolOp .Or xs pos) (rdTO S ts)
  | .one t, X, C, S, xs, pos, c, h => by
    rcases xs with _ | ⟨y, _ | ⟨z, ys⟩⟩ <;> simp [chkTs] at h
    exact ok_TO_one c.K (okT t c h)
  | .cons t r, X, C, S, xs, pos, c, h => by
    rcases xs with _ | ⟨y, _ | ⟨z, ys⟩⟩ <;> (try (simp [chkTs] at h; done))
    simp only [chkTs, Bool.and_eq_true] at h
    exact ok_TO_cons c.K (okT t c h.1) (okTO r c h.2)
theorem okOt : ∀ (t : Ot) {X : Cx} {C : Ck} {S : Sx} {xs : List Expr}, Cn X C S → chkOt C t xs = true → PTs X xs (rdOt S t)
  | .no, X, C, S, xs, c, h => by
    rcases xs with _ | ⟨y, ys⟩ <;> simp [chkOt] at h
    exact ok_Ot_no c.K
  | .yes t, X, C, S, xs, c, h => by
    rcases xs with _ | ⟨y, _ | ⟨z, ys⟩⟩ <;> simp [chkOt] at h
    exact ok_Ot_yes c.K (okT t c h)
end
end Rf
end

-- text RfM
section
set_option Elab.async false
set_option linter.all false
set_option maxRecDepth 100000
set_option maxHeartbeats 4000000
/-! RfM: statements are sound. -/
namespace Rf
open PySem PySem.Spec PyProof.Rows L2

def PinEq (M : Mach) (σ σ' : L2.St) : Prop := ∀ j, M.pin.contains j = true → σ'[j]? = σ[j]?
theorem PinEq.refl {M : Mach} {σ : L2.St} : PinEq M σ σ := fun _ _ => rfl
theorem PinEq.trans {M : Mach} {σ σ1 σ2 : L2.St} (a : PinEq M σ σ1) (b : PinEq M σ1 σ2) : PinEq M σ σ2 := fun j h => (b j h).trans (a j h)
/-- what is wanted behind a statement -/
def PoS (S : Sx) (σ : L2.St) (H : Hp) (Z : Addr → Prop) (env : En) (fp : Nat → List Addr) (fx : List Addr) (D : Ends) : Fl → Prop
  | .nx env' => ∀ σ' H' Z' fp', Step H Z (Owr fp fx) H' Z' (Ow fp') → PinEq S.M σ σ' → Rel S.K H' Z' env' σ' fp' → D.nx σ' H'
  | .bk env' => ∀ σ' H' Z' fp', Step H Z (Owr fp fx) H' Z' (Ow fp') → PinEq S.M σ σ' → Rel S.K H' Z' env' σ' fp' → D.bk σ' H'
  | .ct env' => ∀ σ' H' Z' fp', Step H Z (Owr fp fx) H' Z' (Ow fp') → PinEq S.M σ σ' → Rel S.K H' Z' env' σ' fp' → D.ct σ' H'
  | .rt s env' => ∀ v σ' H' Z' fp' fr, Step H Z (Owr fp fx) H' Z' (Owr fp' fr) → PinEq S.M σ σ' → Rel S.K H' Z' env' σ' fp' → SvR S.K H' Z' s v fr → (∀ a ∈ fr, ¬ Ow fp' a) → D.rt v H'
  | .ex c p env' => ∀ cls d σ' H' Z' fp', Step H Z (Owr fp fx) H' Z' (Ow fp') → PinEq S.M σ σ' → Rel S.K H' Z' env' σ' fp' → S.XR c p cls d H' Z' → S.W cls d σ' H'
  | .no => False
section
variable {S : Sx} {σ σ1 : L2.St} {H H1 : Hp} {Z Z1 : Addr → Prop} {env e1 : En} {fp fp1 : Nat → List Addr} {fx fx1 : List Addr} {D : Ends}
theorem PoS.adv {f : Fl} (h : PoS S σ H Z env fp fx D f) (st : Step H Z (Owr fp fx) H1 Z1 (Owr fp1 fx1)) (pe : PinEq S.M σ σ1) : PoS S σ1 H1 Z1 e1 fp1 fx1 D f := by
  cases f with
  | nx env' => exact fun σ' H' Z' fp' s2 p2 rel => h σ' H' Z' fp' (st.trans s2) (pe.trans p2) rel
  | bk env' => exact fun σ' H' Z' fp' s2 p2 rel => h σ' H' Z' fp' (st.trans s2) (pe.trans p2) rel
  | ct env' => exact fun σ' H' Z' fp' s2 p2 rel => h σ' H' Z' fp' (st.trans s2) (pe.trans p2) rel
  | rt s env' => exact fun v σ' H' Z' fp' fr s2 p2 rel q ap => h v σ' H' Z' fp' fr (st.trans s2) (pe.trans p2) rel q ap
  | ex c p env' => exact fun cls d σ' H' Z' fp' s2 p2 rel x => h cls d σ' H' Z' fp' (st.trans s2) (pe.trans p2) rel x
  | no => exact h
theorem PoS.seq {γ δ : Type} {T1 : Tp γ δ} {Q1 : δ → Hp → Prop} {r : R (γ × En)} {g : γ × En → Fl} (h : PoS S σ H Z env fp fx D (r.fl g))
    (k : ∀ a e1 b H1 Z1 fp1 fr1, Step H Z (Ow fp) H1 Z1 (Owr fp1 fr1) → Kp env e1 → Rel S.K H1 Z1 e1 σ fp1 → T1 a b H1 Z1 e1 fr1 → (∀ x ∈ fr1, ¬ Ow fp1 x) → PoS S σ H1 Z1 e1 fp1 (fx ++ fr1) D (g (a, e1)) → Q1 b H1) : Po S σ H Z env fp [] T1 Q1 r := by
  cases r with
  | ok x =>
    obtain ⟨a, env'⟩ := x
    intro b H' Z' fp' fr st kp rel t ap
    have st' : Step H Z (Ow fp) H' Z' (Owr fp' fr) := st.weak (fun _ h => h.elim (fun h => h) fun h => by simp at h) fun _ h => .inl h
    exact k a env' b H' Z' fp' fr st' kp rel t ap (PoS.adv h st'.more .refl)
  | exc c p env' =>
    intro cls d H' Z' fp' st kp rel x
    exact h cls d σ H' Z' fp' (st.weak (fun _ h => h.elim .inl fun h => by simp at h) fun _ h => .inl h) .refl rel x
  | no => exact h
theorem PoS.opt {ε : Type} {o : Option ε} {g : ε → Fl} (h : PoS S σ H Z env fp fx D ((R.opt o).fl g)) : ∃ x, o = some x ∧ PoS S σ H Z env fp fx D (g x) := by
  cases o with
  | none => exact h.elim
  | some x => exact ⟨x, rfl, h⟩
theorem PoS.mono {f : Fl} {D' : Ends} (h : PoS S σ H Z env fp fx D f) (m1 : ∀ σ H, D.nx σ H → D'.nx σ H) (m2 : ∀ σ H, D.bk σ H → D'.bk σ H) (m3 : ∀ σ H, D.ct σ H → D'.ct σ H) (m4 : ∀ v H, D.rt v H → D'.rt v H) : PoS S σ H Z env fp fx D' f := by
  cases f with
  | nx env' => exact fun σ' H' Z' fp' s2 p2 rel => m1 _ _ (h σ' H' Z' fp' s2 p2 rel)
  | bk env' => exact fun σ' H' Z' fp' s2 p2 rel => m2 _ _ (h σ' H' Z' fp' s2 p2 rel)
  | ct env' => exact fun σ' H' Z' fp' s2 p2 rel => m3 _ _ (h σ' H' Z' fp' s2 p2 rel)
  | rt s env' => exact fun v σ' H' Z' fp' fr s2 p2 rel q ap => m4 _ _ (h v σ' H' Z' fp' fr s2 p2 rel q ap)
  | ex c p env' => exact h
  | no => exact h
/-- a value is made fast, then it goes on -/
theorem PoS.frz {r : Rv} {v : V} {fr : List Addr} {g : Rf.D × En → Fl} {Dn : Ends} (h : PoS S σ H Z env fp (fx ++ fr) Dn ((R.opt (Rf.frz env r)).fl g)) (q : RvR S.K H Z env σ r v fr) (rel : Rel S.K H Z env σ fp) (ap : ∀ x ∈ fr, ¬ Ow fp x) :
    ∃ d e2 Z2 fp2, Rf.frz env r = some (d, e2) ∧ Step H Z (Owr fp fr) H Z2 (Ow fp2) ∧ Kp env e2 ∧ Rel S.K H Z2 e2 σ fp2 ∧ Rp S.K H Z2 v d ∧ PoS S σ H Z2 e2 fp2 fx Dn (g (d, e2)) := by
  obtain ⟨⟨d, e2⟩, e, h⟩ := h.opt
  obtain ⟨Z2, fp2, st, kp, rel2, hr⟩ := frz_ok q rel ap e
  refine ⟨d, e2, Z2, fp2, e, st, kp, rel2, hr, h.adv ?_ .refl⟩
  exact st.weak (fun x h => h.elim .inl fun h => .inr (List.mem_append_right _ h)) fun x h => h.elim (fun h => .inl h) fun h => .inr (.inl (.inr (List.mem_append_left _ h)))
end
def rdS (S : Sx) (s : Rf.S) : TS := fun D σ H => ∃ Z env fp, Rel S.K H Z env σ fp ∧ PoS S σ H Z env fp [] D (exS S.M s env)
def rdSs (S : Sx) (s : Ss) : TS := fun D σ H => ∃ Z env fp, Rel S.K H Z env σ fp ∧ PoS S σ H Z env fp [] D (exSs S.M s env)
theorem _root_.L2.PS.imp {X : Cx} {x : Stmt} {t t' : TS} (h : PS X x t) (i : ∀ D σ H, t' D σ H → t D σ H) : PS X x t' := ⟨fun pins s σ H D I q => h.run pins s σ H D I (i D σ H q)⟩
theorem _root_.L2.PSs.imp {X : Cx} {x : List Stmt} {t t' : TS} (h : PSs X x t) (i : ∀ D σ H, t' D σ H → t D σ H) : PSs X x t' := ⟨fun pins s σ H D I q => h.run pins s σ H D I (i D σ H q)⟩

section
variable {X : Cx} {S : Sx} (hK : S.K = X.K)
include hK
/-- a value is owned by its new name -/
theorem own1_ok {r : Rv} {v : V} {fr : List Addr} {s : Sv} {σ : L2.St} {H : Hp} {Z : Addr → Prop} {env e2 : En} {fp : Nat → List Addr} (q : RvR S.K H Z env σ r v fr) (rel : Rel S.K H Z env σ fp) (ap : ∀ x ∈ fr, ¬ Ow fp x) (h : own1 env r = some (s, e2)) :
    ∃ Z2 fp2 f, Step H Z (Owr fp fr) H Z2 (Owr fp2 f) ∧ Kp env e2 ∧ Rel S.K H Z2 e2 σ fp2 ∧ SvR S.K H Z2 s v f ∧ ∀ a ∈ f, ¬ Ow fp2 a := by
  cases r with
  | dat d =>
    have h : some (Sv.dat d, env) = some (s, e2) := h
    cases h
    exact ⟨Z, fp, [], Step.refl.weak (fun _ h => h) fun x h => .inl (h.elim .inl fun h => by simp at h), .refl, rel, ⟨q.1, rfl⟩, by simp⟩
  | tl ds =>
    have h : some (Sv.lst ds, env) = some (s, e2) := h
    cases h
    exact ⟨Z, fp, fr, .refl, .refl, rel, q, ap⟩
  | td ds =>
    have h : some (Sv.dct ds, env) = some (s, e2) := h
    cases h
    exact ⟨Z, fp, fr, .refl, .refl, rel, q, ap⟩
  | tt ds =>
    have h : some (Sv.dtt ds, env) = some (s, e2) := h
    cases h
    exact ⟨Z, fp, fr, .refl, .refl, rel, q, ap⟩
  | plc i =>
    have h : ((frz env (.plc i)).map fun (d, e) => (Sv.dat d, e)) = some (s, e2) := h
    obtain ⟨⟨d, e⟩, h1, h2⟩ := Option.map_eq_some_iff.mp h
    cases h2
    obtain ⟨Z2, fp2, st, kp, rel2, hr⟩ := frz_ok q rel ap h1
    exact ⟨Z2, fp2, [], st.owr, kp, rel2, ⟨hr, rfl⟩, by simp⟩
/-- values that are owned by their new names -/
def SvAll (K : PySem.W.Frag) (H : Hp) (Z : Addr → Prop) : List Sv → List V → List Addr → Prop
  | [], vs, f => vs = [] ∧ f = []
  | s :: ss, vs, f => ∃ v vs' f1 f2, vs = v :: vs' ∧ f = f1 ++ f2 ∧ SvR K H Z s v f1 ∧ SvAll K H Z ss vs' f2 ∧ ∀ a ∈ f1, a ∉ f2
theorem RvAll.step2 {σ : L2.St} {H H' : Hp} {Z Z' O O' : Addr → Prop} {env e2 : En} (st : Step H Z O H' Z' O') (hzo : ∀ a, Z a → ¬ O a) (kp : Kp env e2) : ∀ {rs : List Rv} {vs : List V} {f : List Addr}, RvAll S.K H Z env σ rs vs f → (∀ a ∈ f, ¬ O a) → RvAll S.K H' Z' e2 σ rs vs f
  | [], vs, f, h, _ => h
  | r :: rs, vs, f, h, hf => by
    obtain ⟨v, vs', f1, f2, rfl, rfl, h1, h2, h3⟩ := h
    exact ⟨v, vs', f1, f2, rfl, rfl, h1.step st hzo (fun a ha => hf a (List.mem_append_left _ ha)) kp.2, RvAll.step2 st hzo kp h2 fun a ha => hf a (List.mem_append_right _ ha), h3⟩
theorem RvR.unz {r : Rv} {v : V} {fr : List Addr} {σ : L2.St} {H : Hp} {Z : Addr → Prop} {env : En} (q : RvR S.K H Z env σ r v fr) : ∀ a ∈ fr, ¬ Z a := fun a ha => by
  cases r with
  | dat _ => rw [q.2] at ha; simp at ha
  | tl ds => exact (SvR.owned (s := .lst ds) q a ha).1
  | td ds => exact (SvR.owned (s := .dct ds) q a ha).1
  | tt ds => exact (SvR.owned (s := .dtt ds) q a ha).1
  | plc _ => rw [q.2.2] at ha; simp at ha
theorem RvAll.unz {σ : L2.St} {H : Hp} {Z : Addr → Prop} {env : En} : ∀ {rs : List Rv} {vs : List V} {fr : List Addr}, RvAll S.K H Z env σ rs vs fr → ∀ a ∈ fr, ¬ Z a
  | [], vs, fr, q, a, ha => by rw [q.2] at ha; simp at ha
  | r :: rs, vs, fr, q, a, ha => by
    obtain ⟨v, vs', f1, f2, rfl, rfl, h1, h2, h3⟩ := q
    rcases List.mem_append.mp ha with ha | ha
    · exact RvR.unz hK h1 a ha
    · exact RvAll.unz h2 a ha
theorem ownAll_ok {σ : L2.St} {H : Hp} : ∀ {rs : List Rv} {vs : List V} {fr : List Addr} {ss : List Sv} {Z : Addr → Prop} {env e2 : En} {fp : Nat → List Addr}, RvAll S.K H Z env σ rs vs fr → Rel S.K H Z env σ fp → (∀ x ∈ fr, ¬ Ow fp x) → ownAll env rs = some (ss, e2) →
    ∃ Z2 fp2 f, Step H Z (Owr fp fr) H Z2 (Owr fp2 f) ∧ Kp env e2 ∧ Rel S.K H Z2 e2 σ fp2 ∧ SvAll S.K H Z2 ss vs f ∧ ∀ a ∈ f, ¬ Ow fp2 a
  | [], vs, fr, ss, Z, env, e2, fp, q, rel, ap, h => by
    obtain ⟨rfl, rfl⟩ := q
    simp only [ownAll, Option.some.injEq, Prod.mk.injEq] at h
    obtain ⟨rfl, rfl⟩ := h
    exact ⟨Z, fp, [], .refl, .refl, rel, ⟨rfl, rfl⟩, by simp⟩
  | r :: rs, vs, fr, ss, Z, env, e2, fp, q, rel, ap, h => by
    obtain ⟨v, vs', f1, f2, rfl, rfl, h1, h2, h3⟩ := q
    simp only [ownAll] at h
    obtain ⟨⟨s, e1⟩, k1, h⟩ := Option.bind_eq_some_iff.mp h
    obtain ⟨⟨ss', e3⟩, k2, h⟩ := Option.map_eq_some_iff.mp h
    cases h
    obtain ⟨Z1, fp1, g1, st1, kp1, rel1, hs1, ap1⟩ := own1_ok hK h1 rel (fun x hx => ap x (List.mem_append_left _ hx)) k1
    have hf2 : ∀ a ∈ f2, ¬ Owr fp f1 a := fun a ha o => o.elim (ap a (List.mem_append_right _ ha)) fun o => h3 a o ha
    have hzo : ∀ a, Z a → ¬ Owr fp f1 a := fun a z o => o.elim (rel.zo a z) fun o => (RvR.unz hK h1 a o z)
    have r2 := RvAll.step2 (S := S) hK st1 hzo kp1 h2 hf2
    have hfn : ∀ a ∈ f2, ¬ Owr fp1 g1 a := fun a ha o => by
      rcases st1.new a o with o | o
      · exact hf2 a ha o
      · exact (RvAll.there h2 a ha).2 o
    obtain ⟨Z2, fp2, g2, st2, kp2, rel2, hs2, ap2⟩ := ownAll_ok r2 rel1 (fun x hx o => hfn x hx (.inl o)) k2
    have hg1 : ∀ a ∈ g1, ¬ Owr fp1 f2 a := fun a ha o => o.elim (ap1 a ha) fun o => hfn a o (.inr ha)
    have hg1n : ∀ a ∈ g1, H a ≠ none := fun a ha => (hs1.owned a ha).2
    have hz2 : ∀ a, Z1 a → ¬ Owr fp1 f2 a := fun a z o => o.elim (rel1.zo a z) fun o => by
      have hz := (RvAll.there h2 a o).2
      cases e : H a with
      | none => exact hz e
      | some ob =>
        have := (st1.keep a ob e (hf2 a o)).2 z
        exact RvAll.unz hK h2 a o this
    have hg12 : ∀ a ∈ g1, ¬ Owr fp2 g2 a := fun a ha o => (st2.new a o).elim (hg1 a ha) (hg1n a ha)
    refine ⟨Z2, fp2, g1 ++ g2, ?_, kp1.trans kp2, rel2, ⟨v, vs', g1, g2, rfl, rfl, hs1.step st2 hz2 hg1, hs2, fun a ha hb => hg12 a ha (.inr hb)⟩, fun a ha o => ?_⟩
    · refine (st1.weak (O1 := Owr fp (f1 ++ f2)) (O1' := Owr fp1 (g1 ++ f2)) (fun x o => o.elim .inl fun o => .inr (List.mem_append_left _ o)) fun x o => ?_).trans (st2.weak (O1 := Owr fp1 (g1 ++ f2)) (O1' := Owr fp2 (g1 ++ g2)) (fun x o => o.elim .inl fun o => .inr (List.mem_append_right _ o)) fun x o => ?_)
      · rcases o with o | o
        · exact .inl (.inl o)
        · rcases List.mem_append.mp o with o | o
          · exact .inl (.inr o)
          · exact .inr (.inl (.inr (List.mem_append_right _ o)))
      · rcases o with o | o
        · exact .inl (.inl o)
        · rcases List.mem_append.mp o with o | o
          · exact .inr (.inl (.inr (List.mem_append_left _ o)))
          · exact .inl (.inr o)
    · rcases List.mem_append.mp ha with ha | ha
      · exact hg12 a ha (.inl o)
      · exact ap2 a ha o
/-- the stores, one behind the other -/
def setAll : L2.St → List Nat → List V → L2.St
  | σ, i :: is, v :: vs => setAll (σ.set i (some v)) is vs
  | σ, _, _ => σ
theorem storeAll_ok {H : Hp} {Z : Addr → Prop} : ∀ {is : List Nat} {ss : List Sv} {vs : List V} {f : List Addr} {env env' : En} {σ : L2.St} {fp : Nat → List Addr}, Rel S.K H Z env σ fp → storeAll S.M is ss env = some env' → SvAll S.K H Z ss vs f → (∀ a ∈ f, ¬ Ow fp a) →
    ∃ fp', Rel S.K H Z env' (setAll σ is vs) fp' ∧ PinEq S.M σ (setAll σ is vs) ∧ (∀ a, Ow fp' a → Owr fp f a) ∧ is.length = vs.length
  | [], [], vs, f, env, env', σ, fp, rel, h, hs, ap => by
    simp only [storeAll, Option.some.injEq] at h
    subst h
    obtain ⟨rfl, rfl⟩ := hs
    exact ⟨fp, rel, .refl, fun a o => .inl o, rfl⟩
  | i :: is, s :: ss, vs, f, env, env', σ, fp, rel, h, hs, ap => by
    obtain ⟨v, vs', f1, f2, rfl, rfl, h1, h2, h3⟩ := hs
    simp only [storeAll] at h
    obtain ⟨e1, k1, h⟩ := Option.bind_eq_some_iff.mp h
    obtain ⟨r3, c3⟩ := store_ok' hK rel k1 h1 fun a ha j hj m => ap a (List.mem_append_left _ ha) ⟨j, m⟩
    obtain ⟨fp', r4, p4, o4, l4⟩ := storeAll_ok r3 h h2 fun a ha o => by
      obtain ⟨j, hj⟩ := o
      change a ∈ (if j = i then f1 else fp j) at hj
      split at hj
      · exact h3 a hj ha
      · exact ap a (List.mem_append_right _ ha) ⟨j, hj⟩
    refine ⟨fp', r4, PinEq.trans c3.pin p4, fun a o => ?_, by simp [l4]⟩
    rcases o4 a o with ⟨j, hj⟩ | o
    · change a ∈ (if j = i then f1 else fp j) at hj
      split at hj
      · exact .inr (List.mem_append_left _ hj)
      · exact .inl ⟨j, hj⟩
    · exact .inr (List.mem_append_right _ o)
  | [], _ :: _, vs, f, env, env', σ, fp, rel, h, hs, ap => by simp [storeAll] at h
  | _ :: _, [], vs, f, env, env', σ, fp, rel, h, hs, ap => by simp [storeAll] at h
theorem par_core {is : List Nat} {es : Es} {D : Ends} {σ : L2.St} {H : Hp} (h : rdS S (.par is es) D σ H) : rdA S es σ H fun vs H1 => is.length = vs.length ∧ D.nx (setAll σ is vs) H1 := by
  obtain ⟨Z, env, fp, rel, h⟩ := h
  unfold exS at h
  refine ⟨Z, env, fp, rel, PoS.seq h fun rs e1 vs H1 Z1 fp1 fr1 st1 kp1 rel1 t1 ap1 h => ?_⟩
  dsimp only at h
  obtain ⟨⟨ss, e2⟩, k1, h⟩ := h.opt
  obtain ⟨e3, k2, h⟩ := h.opt
  obtain ⟨Z2, fp2, f, st2, kp2, rel2, hs, ap2⟩ := ownAll_ok hK t1 rel1 ap1 k1
  obtain ⟨fp3, r3, p3, o3, l3⟩ := storeAll_ok hK rel2 k2 hs ap2
  refine ⟨l3, h _ H1 Z2 fp3 (st2.weak (fun x o => by simpa using o) fun x o => .inl (o3 x o)) p3 r3⟩
theorem asg_name_core {i : Nat} {e : E} {D : Ends} {σ : L2.St} {H : Hp} (h : rdS S (.asg (.nm i) e) D σ H) : rdE S e σ H fun x H1 => D.nx (σ.set i (some x)) H1 := by
  obtain ⟨Z, env, fp, rel, h⟩ := h
  unfold exS at h
  refine ⟨Z, env, fp, rel, PoS.seq h fun r e1 v H1 Z1 fp1 fr1 st1 kp1 rel1 t1 ap1 h => ?_⟩
  dsimp only at h
  cases ha : asgR S.M _ r e1 with
  | some e2 =>
    rw [ha] at h
    unfold asgR at ha
    dsimp only at ha
    obtain ⟨⟨s, e3⟩, h1, h2⟩ := Option.bind_eq_some_iff.mp ha
    obtain ⟨Z2, fp2, f, st2, kp2, rel2, hs, ap2⟩ := own1_ok hK t1 rel1 ap1 h1
    obtain ⟨r3, c3⟩ := store_ok' hK rel2 (show store S.M e3 i s = some e2 from h2) hs fun a ha j hj m => ap2 a ha ⟨j, m⟩
    refine h _ H1 Z2 _ ?_ c3.pin r3
    refine st2.weak (fun x o => by simpa using o) fun x o => .inl ?_
    obtain ⟨j, hj⟩ := o
    change x ∈ (if j = i then f else fp2 j) at hj
    split at hj
    · exact .inr hj
    · exact .inl ⟨j, hj⟩
  | none => rw [ha] at h; exact h.elim
theorem asg_tup_core {ts : Tgs} {e : E} {D : Ends} {σ : L2.St} {H : Hp} (h : rdS S (.asg (.tp ts) e) D σ H) : tAsg (rdE S e) (rdG S (.tp ts)) D σ H := by
  obtain ⟨Z, env, fp, rel, h⟩ := h
  unfold exS at h
  refine ⟨Z, env, fp, rel, PoS.seq h fun r e1 v H1 Z1 fp1 fr1 st1 kp1 rel1 t1 ap1 h => ?_⟩
  dsimp only at h
  cases ha : asgR S.M _ r e1 with
  | some e2 =>
    rw [ha] at h
    unfold asgR at ha
    dsimp only at ha
    obtain ⟨⟨d, e3⟩, h1, h2⟩ := Option.bind_eq_some_iff.mp ha
    obtain ⟨Z2, fp2, st2, kp2, rel2, hd⟩ := frz_ok t1 rel1 ap1 h1
    refine ⟨Z2, e3, fp2, d, e2, rel2, hd, h2, fun σ' fp' rel' o' c' => ?_⟩
    exact h σ' H1 Z2 fp' (st2.weak (fun x o => by simpa using o) fun x o => .inl (o' x o)) c'.pin rel'
  | none => rw [ha] at h; exact h.elim
def rSetA : TSet := fun o i v H Q => rSetL o i v H Q ∨ ∃ a H', o = .ref a ∧ DPut H a i v H' ∧ Q H'
omit hK in
theorem set_any (hu : X.A.units + 1 < cLine) : PSet X rSetA := by
  intro pins s σ H o i v ov iv u Q I ro ri rv h
  rcases h with h | ⟨a, H', rfl, g, q⟩
  · exact set_list pins s σ H o i v ov iv u Q I ro ri rv h
  · cases (show ov = Value.ref a from ro)
    exact d_setItem hu I g ri rv fun s' I' => ⟨H', I', q⟩
theorem set_core {x i v : E} {D : Ends} {σ : L2.St} {H : Hp} (h : rdS S (.set x i v) D σ H) : tAsg (rdE S v) (gSub (rdE S x) (rdE S i) rSetA) D σ H := by
  obtain ⟨Z, env, fp, rel, h⟩ := h
  unfold exS at h
  refine ⟨Z, env, fp, rel, PoS.seq h fun r e1 u H1 Z1 fp1 fr1 st1 kp1 rel1 t1 ap1 h => ?_⟩
  obtain ⟨d, e2, Z2, fp2, _, st2, kp2, rel2, hd, h⟩ := PoS.frz h t1 rel1 ap1
  refine ⟨Z2, e2, fp2, rel2, PoS.seq h fun rx e3 o H3 Z3 fp3 fr3 st3 kp3 rel3 t3 ap3 h => ?_⟩
  refine ⟨Z3, e3, fp3, rel3, PoS.seq h fun ri e4 ix H4 Z4 fp4 fr4 st4 kp4 rel4 t4 ap4 h => ?_⟩
  obtain ⟨k, e5, Z5, fp5, _, st5, kp5, rel5, hk, h⟩ := PoS.frz h t4 rel4 ap4
  have hd5 : Rp S.K H4 Z5 u d := ((hd.step st3 rel2.zo).step st4 rel3.zo).mono st5.mono fun _ _ _ e => e
  cases rx with
  | plc j =>
    dsimp only at h
    cases hs : slot e5 j with
    | none => rw [hs] at h; exact h.elim
    | some s =>
      rw [hs] at h
      dsimp only at h
      cases hw : setW s k d with
      | none => rw [hw] at h; exact h.elim
      | some s' =>
        rw [hw] at h
        unfold setW at hw
        split at hw
        · rename_i xs n d'
          obtain ⟨m, hm, rfl⟩ := Option.map_eq_some_iff.mp hw
          cases hk
          obtain ⟨w, hv, hr⟩ := rel5.at_ j _ hs
          obtain ⟨l, us, rfl, hf, eh, ra, nz⟩ := hr
          obtain ⟨ho, _, _⟩ := t3
          rw [hv] at ho
          cases ho
          refine .inl ⟨l, us, n, m, rfl, rfl, eh, by rw [ra.length]; exact hm, ?_⟩
          have hn : SvR S.K (upd H4 l (.lst (us.set m u))) Z5 (.lst (xs.set m d)) (.ref l) [l] := ⟨l, _, rfl, rfl, upd_same, (ra.set hd5 m).mono (fun _ h => h) fun a o z e => by rw [upd_ne fun q => nz (by rw [← q]; exact z)]; exact e, nz⟩
          exact h σ (upd H4 l (.lst (us.set m u))) Z5 fp5 ((write_step hf).weak (fun _ h => h) fun x o => .inl (.inl o)) .refl (rel5.write hs hv hf hn)
        · obtain ⟨q0, hq, hw⟩ := Option.bind_eq_some_iff.mp hw
          split at hw
          · rename_i hsz
            cases hw
            obtain ⟨w, hv, hr⟩ := rel5.at_ j _ hs
            obtain ⟨l, us, rfl, hf, eh, ra, nz⟩ := hr
            obtain ⟨ho, _, _⟩ := t3
            rw [hv] at ho
            cases ho
            have hik := vw_key hk.vw hq
            subst hik
            refine .inr ⟨l, _, rfl, DPut.k eh (by rw [ra.length]; exact sizeOk_le hsz), ?_⟩
            have hn : SvR S.K (upd H4 l (.dK (putK us q0 u))) Z5 (.dct (dPut _ _ q0 d)) (.ref l) [l] := ⟨l, _, rfl, rfl, upd_same, (ra.put hq hk.keyFit hd5).mono (fun _ h => h) fun a o z e => by rw [upd_ne fun q => nz (by rw [← q]; exact z)]; exact e, nz⟩
            exact h σ (upd H4 l (.dK (putK us q0 u))) Z5 fp5 ((write_step hf).weak (fun _ h => h) fun x o => .inl (.inl o)) .refl (rel5.write hs hv hf hn)
          · cases hw
        · obtain ⟨q0, hq, hw⟩ := Option.bind_eq_some_iff.mp hw
          split at hw
          · rename_i hsz
            cases hw
            obtain ⟨w, hv, hr⟩ := rel5.at_ j _ hs
            obtain ⟨l, us, rfl, hf, eh, ra, nz⟩ := hr
            obtain ⟨ho, _, _⟩ := t3
            rw [hv] at ho
            cases ho
            obtain ⟨kf, b, rfl, hb⟩ := hk.keyV hq
            refine .inr ⟨l, _, rfl, DPut.t eh hb (by rw [ra.length]; exact sizeOk_le hsz), ?_⟩
            have hn : SvR S.K (upd H4 l (.dT (putK us q0 u))) Z5 (.dtt (dPutT _ _ q0 d)) (.ref l) [l] := ⟨l, _, rfl, rfl, upd_same, (ra.put hq kf hd5).mono (fun _ h => h) fun a o z e => by rw [upd_ne fun q => nz (by rw [← q]; exact z)]; exact e, nz⟩
            exact h σ (upd H4 l (.dT (putK us q0 u))) Z5 fp5 ((write_step hf).weak (fun _ h => h) fun x o => .inl (.inl o)) .refl (rel5.write hs hv hf hn)
          · cases hw
        · cases hw
  | _ => exact h.elim
def ipO : Operator → TIp
  | .Add => ipI fun i j => i + j
  | _ => ipI fun i j => i - j
theorem aug_core {i : Nat} {o : Operator} {e : E} (ho : o = .Add ∨ o = .Sub) {D : Ends} {σ : L2.St} {H : Hp} (h : rdS S (.aug i o e) D σ H) : tAug i (rdE S e) (ipO o) D σ H := by
  obtain ⟨Z, env, fp, rel, h⟩ := h
  unfold exS at h
  split at h
  · rename_i x hx
    obtain ⟨v, hv, hr⟩ := rel.at_ i _ hx
    refine ⟨v, hv, Z, env, fp, rel, PoS.seq h fun r e1 u H1 Z1 fp1 fr1 st1 kp1 rel1 t1 ap1 h => ?_⟩
    obtain ⟨y, ey, h⟩ := h.opt
    have hy := t1.vw rel1 ey
    split at h
    · cases hy
      cases hr.1
      obtain ⟨e2, hs, h⟩ := h.opt
      obtain ⟨r3, c3⟩ := store_ok' hK rel1 hs (v := .int _) (f := []) ⟨.int _, rfl⟩ (by simp)
      refine ⟨_, _, rfl, rfl, h _ H1 Z1 _ (Step.refl.weak (fun _ h => h) fun x o => .inl ?_) c3.pin r3⟩
      obtain ⟨j, hj⟩ := o
      change x ∈ (if j = i then [] else fp1 j) at hj
      split at hj
      · simp at hj
      · exact .inl ⟨j, hj⟩
    · cases hy
      cases hr.1
      obtain ⟨e2, hs, h⟩ := h.opt
      obtain ⟨r3, c3⟩ := store_ok' hK rel1 hs (v := .int _) (f := []) ⟨.int _, rfl⟩ (by simp)
      refine ⟨_, _, rfl, rfl, h _ H1 Z1 _ (Step.refl.weak (fun _ h => h) fun x o => .inl ?_) c3.pin r3⟩
      obtain ⟨j, hj⟩ := o
      change x ∈ (if j = i then [] else fp1 j) at hj
      split at hj
      · simp at hj
      · exact .inl ⟨j, hj⟩
    · exact h.elim
  · exact h.elim
theorem exp_core {e : E} {D : Ends} {σ : L2.St} {H : Hp} (h : rdS S (.exp e) D σ H) : tDrop (rdE S e) D σ H := by
  obtain ⟨Z, env, fp, rel, h⟩ := h
  unfold exS at h
  refine ⟨Z, env, fp, rel, PoS.seq h fun r e1 v H1 Z1 fp1 fr1 st1 kp1 rel1 t1 ap1 h => ?_⟩
  exact h σ H1 Z1 fp1 (Step.refl.weak (fun _ h => h) fun x o => .inl (.inl o)) .refl rel1
theorem ret_core {e : E} {D : Ends} {σ : L2.St} {H : Hp} (h : rdS S (.ret e) D σ H) : tRet (rdE S e) D σ H := by
  obtain ⟨Z, env, fp, rel, h⟩ := h
  unfold exS at h
  refine ⟨Z, env, fp, rel, PoS.seq h fun r e1 v H1 Z1 fp1 fr1 st1 kp1 rel1 t1 ap1 h => ?_⟩
  dsimp only at h
  split at h
  · rename_i s e2 ho
    cases r with
    | dat d =>
      have ho : some (Sv.dat d, e1) = some (s, e2) := ho
      cases ho
      exact h v σ H1 Z1 fp1 [] (Step.refl.weak (fun _ h => h) fun x o => .inl (o.elim .inl fun o => by simp at o)) .refl rel1 ⟨t1.1, rfl⟩ (by simp)
    | tl ds =>
      have ho : some (Sv.lst ds, e1) = some (s, e2) := ho
      cases ho
      exact h v σ H1 Z1 fp1 fr1 (Step.refl.weak (fun _ h => h) fun x o => .inl (by simpa using o)) .refl rel1 t1 ap1
    | td ds =>
      have ho : some (Sv.dct ds, e1) = some (s, e2) := ho
      cases ho
      exact h v σ H1 Z1 fp1 fr1 (Step.refl.weak (fun _ h => h) fun x o => .inl (by simpa using o)) .refl rel1 t1 ap1
    | tt ds =>
      have ho : some (Sv.dtt ds, e1) = some (s, e2) := ho
      cases ho
      exact h v σ H1 Z1 fp1 fr1 (Step.refl.weak (fun _ h => h) fun x o => .inl (by simpa using o)) .refl rel1 t1 ap1
    | plc i =>
      unfold outS at ho
      dsimp only at ho
      split at ho
      · obtain ⟨⟨d, e3⟩, h1, h2⟩ := Option.map_eq_some_iff.mp ho
        cases h2
        obtain ⟨Z2, fp2, st2, kp2, rel2, hd⟩ := frz_ok t1 rel1 ap1 h1
        exact h v σ H1 Z2 fp2 [] (st2.owr.weak (fun x o => by simpa using o) fun _ h => .inl h) .refl rel2 ⟨hd, rfl⟩ (by simp)
      · rename_i hp
        obtain ⟨s2, h1, h2⟩ := Option.map_eq_some_iff.mp ho
        cases h2
        obtain ⟨hv, _, rfl⟩ := t1
        obtain ⟨v2, hv2, hr⟩ := rel1.at_ i _ h1
        rw [hv] at hv2
        cases hv2
        have rd := rel1.drop (i := i) (x := none) (slot_lt h1)
        refine h v (σ.set i none) H1 Z1 _ (fp1 i) (Step.refl.weak (fun _ h => h) fun x o => .inl (.inl ?_)) (fun j hj => List.getElem?_set_ne fun e => hp (by rw [e]; exact hj)) rd hr fun a ha o => ?_
        · rcases o with ⟨j, hj⟩ | o
          · change x ∈ (if j = i then [] else fp1 j) at hj
            split at hj
            · simp at hj
            · exact ⟨j, hj⟩
          · exact ⟨i, o⟩
        · obtain ⟨j, hj⟩ := o
          change a ∈ (if j = i then [] else fp1 j) at hj
          split at hj
          · simp at hj
          · rename_i hne
            exact hne (rel1.dj j i a hj ha)
  · exact h.elim
theorem ite_core {c : T} {a b : Ss} {D : Ends} {σ : L2.St} {H : Hp} (h : rdS S (.ite c a b) D σ H) : tIfS (rdT S c) (rdSs S a) (rdSs S b) D σ H := by
  obtain ⟨Z, env, fp, rel, h⟩ := h
  unfold exS at h
  refine ⟨Z, env, fp, rel, PoS.seq h fun k e1 kb H1 Z1 fp1 fr1 st1 kp1 rel1 t1 ap1 h => ?_⟩
  obtain ⟨rfl, rfl⟩ := t1
  dsimp only at h
  cases kb with
  | true =>
    rw [if_pos rfl] at h ⊢
    exact ⟨Z1, e1, fp1, rel1, h⟩
  | false =>
    rw [if_neg Bool.false_ne_true] at h ⊢
    exact ⟨Z1, e1, fp1, rel1, h⟩
theorem whl_core {c : T} {b : Ss} {D : Ends} {σ : L2.St} {H : Hp} (h : rdS S (.whl c b) D σ H) : tWhile (rdT S c) (rdSs S b) D σ H := by
  obtain ⟨Z, env, fp, rel, h⟩ := h
  unfold exS at h
  refine ⟨fun m σ H => ∃ Z env fp, Rel S.K H Z env σ fp ∧ PoS S σ H Z env fp [] D (whileF (evT S.M c) (exSs S.M b) m env), ⟨S.M.fuel, Z, env, fp, rel, h⟩, ?_⟩
  rintro m σ H ⟨Z, env, fp, rel, h⟩
  cases m with
  | zero => exact h.elim
  | succ m =>
    unfold whileF at h
    refine ⟨Z, env, fp, rel, PoS.seq h fun k e1 kb H1 Z1 fp1 fr1 st1 kp1 rel1 t1 ap1 h => ?_⟩
    obtain ⟨rfl, rfl⟩ := t1
    dsimp only at h
    cases kb with
    | false =>
      rw [if_neg Bool.false_ne_true] at h ⊢
      exact h σ H1 Z1 fp1 (Step.refl.weak (fun _ h => h) fun x o => .inl (.inl o)) .refl rel1
    | true =>
      rw [if_pos rfl] at h ⊢
      refine ⟨fun σ' H' => ∃ m', m' < m + 1 ∧ ∃ Z env fp, Rel S.K H' Z env σ' fp ∧ PoS S σ' H' Z env fp [] D (whileF (evT S.M c) (exSs S.M b) m' env), fun σ' H' q => q, Z1, e1, fp1, rel1, ?_⟩
      cases q : exSs S.M b e1 with
      | nx e2 =>
        rw [q] at h
        exact fun σ' H' Z' fp' st pe rel' => ⟨m, Nat.lt_succ_self m, Z', e2, fp', rel', PoS.adv h (by simpa using st.owr) pe⟩
      | ct e2 =>
        rw [q] at h
        exact fun σ' H' Z' fp' st pe rel' => ⟨m, Nat.lt_succ_self m, Z', e2, fp', rel', PoS.adv h (by simpa using st.owr) pe⟩
      | bk e2 => rw [q] at h; exact h
      | rt s e2 => rw [q] at h; exact h
      | ex c' p e2 => rw [q] at h; exact h
      | no => rw [q] at h; exact h
theorem for_core {t : Tg} {it : Itr} {b : Ss} {D : Ends} {σ : L2.St} {H : Hp} (h : rdS S (.for t it b) D σ H) : tFor (rdI S it) (rdG S t) (rdSs S b) D σ H := by
  obtain ⟨Z, env, fp, rel, h⟩ := h
  unfold exS at h
  refine ⟨Z, env, fp, rel, PoS.seq h fun xs e1 J H1 Z1 fp1 fr1 st1 kp1 rel1 t1 ap1 h => ?_⟩
  obtain ⟨⟨G, Y, wk, hG, hY⟩, rfl⟩ := t1
  refine for_it wk (fun i σ H => ∃ Z env fp, Rel S.K H Z env σ fp ∧ Pers H1 Z1 H Z ∧ PoS S σ H Z env fp [] D (forF S.M t (exSs S.M b) (xs.drop i) env)) ⟨Z1, e1, fp1, rel1, .refl, by simpa using h⟩ ?_ ?_ ?_
  · rintro i σ H _ ⟨Z, env, fp, rel, pr, h⟩
    exact hG H Z pr
  · rintro i x σ H H' hi ⟨Z, env, fp, rel, pr, h⟩ hy
    obtain ⟨d, Z', hd, g, zk, hr⟩ := hY i H Z x H' pr rel.zs hi hy
    have hdrop : xs.drop i = d :: xs.drop (i + 1) := by
      obtain ⟨hlt, he⟩ := List.getElem?_eq_some_iff.mp hd
      rw [List.drop_eq_getElem_cons hlt, he]
    rw [hdrop] at h
    unfold forF at h
    cases ha : asgD S.M t d env with
    | none => rw [ha] at h; exact h.elim
    | some e2 =>
      rw [ha] at h
      simp only [Fl.opt_some] at h
      refine ⟨Z', env, fp, d, e2, rel.grow g zk, hr, ha, fun σ2 fp2 rel2 o2 c2 => ?_⟩
      have sA : Step H Z (Owr fp []) H' Z' (Owr fp2 []) := g.step.weak (fun _ h => h) fun x o => .inl (o.elim (fun o => .inl (o2 x o)) fun o => by simp at o)
      refine ⟨Z', e2, fp2, rel2, ?_⟩
      have next : ∀ {e3 : En} {σ' : L2.St} {H3 : Hp} {Z3 : Addr → Prop} {fp3 : Nat → List Addr}, PoS S σ H Z env fp [] D (forF S.M t (exSs S.M b) (xs.drop (i + 1)) e3) → Step H' Z' (Owr fp2 []) H3 Z3 (Ow fp3) → PinEq S.M σ2 σ' → Rel S.K H3 Z3 e3 σ' fp3 →
          ∃ Z env fp, Rel S.K H3 Z env σ' fp ∧ Pers H1 Z1 H3 Z ∧ PoS S σ' H3 Z env fp [] D (forF S.M t (exSs S.M b) (xs.drop (i + 1)) env) := fun {e3 σ' H3 Z3 fp3} h st pe rel3 => by
        refine ⟨Z3, e3, fp3, rel3, (pr.trans g.pers).trans (st.pers fun a z o => o.elim (rel2.zo a z) fun o => by simp at o), PoS.adv h (sA.trans st.owr) (PinEq.trans c2.pin pe)⟩
      cases q : exSs S.M b e2 with
      | nx e3 =>
        rw [q] at h
        exact fun σ' H3 Z3 fp3 st pe rel3 => next h st pe rel3
      | ct e3 =>
        rw [q] at h
        exact fun σ' H3 Z3 fp3 st pe rel3 => next h st pe rel3
      | bk e3 =>
        rw [q] at h
        exact PoS.adv (e1 := e2) (f := .nx e3) h sA c2.pin
      | rt s e3 =>
        rw [q] at h
        exact PoS.adv (e1 := e2) (f := .rt s e3) (D := D) h sA c2.pin
      | ex c' p e3 =>
        rw [q] at h
        exact PoS.adv (e1 := e2) (f := .ex c' p e3) (D := D) h sA c2.pin
      | no => rw [q] at h; exact h.elim
  · rintro σ H ⟨Z, env, fp, rel, pr, h⟩
    rw [List.drop_length] at h
    unfold forF at h
    exact h σ H Z fp (Step.refl.weak (fun _ h => h) fun x o => .inl (.inl o)) .refl rel
end
end Rf
end

-- text RfM2
section
set_option Elab.async false
set_option linter.all false
set_option maxRecDepth 100000
set_option maxHeartbeats 4000000
/-! RfM2: a, b = x, y. -/
namespace Rf
open PySem PySem.Spec PyProof.Rows L2

def chkNms (C : Ck) : List Nat → List Expr → Bool
  | [], x => match x with
    | [] => true
    | _ => false
  | i :: is, x => match x with
    | .Name y _ :: r => chkSt C i y && chkNms C is r
    | _ => false
def locK (sc : Scope) (y : Str) : Bool := sc.names.lookup y == some .local
def parNames (sc : Scope) (ts : List Expr) : List Str :=
  let line := (ts.head?.map (·.pos.line)).getD 0
  ts.filterMap fun
    | .Name id pos => if locK sc id && pos.line == line then some id else none
    | _ => none
/-- how a, b = x, y is stored: 0 from the left, 1 from the right, 2 not told -/
def parMode (sc : Scope) (ts vs : List Expr) : Nat :=
  if !(ts.length == 2 || ts.length == 3) || vs.length != ts.length then 0
  else if vs.any fun | .Starred .. => true | _ => false then 0
  else if (parNames sc ts).length != ts.length || (parNames sc ts).eraseDups.length != (parNames sc ts).length then 0
  else if vs.all (foldedForSure 8) then 0
  else if vs.all (constantsAlone 8) then 2 else 1
def nodupN : List Nat → Bool
  | [] => true
  | x :: r => !r.contains x && nodupN r
theorem par0 {X : Cx} (hk : X.env.scope.kind = .function) {ts vs : List Expr} {k k2 : Nat} {p p2 : Pos} (h : parMode X.env.scope ts vs = 0) : swappedStores [.Tuple ts k p] (.Tuple vs k2 p2) X.env = pure none := by
  have hb : X.env.blockKind = .function := by unfold Env.blockKind; rw [hk]; rfl
  unfold swappedStores; dsimp only
  unfold parMode at h
  rw [hb]
  by_cases c1 : (!(ts.length == 2 || ts.length == 3) || vs.length != ts.length) = true
  · exact if_pos (by rw [c1]; rfl)
  · rw [if_neg c1] at h
    refine (if_neg (by rw [Bool.not_eq_true] at c1; rw [c1]; decide)).trans ?_
    split at h
    · rename_i c2; exact if_pos c2
    · rename_i c2
      refine (if_neg c2).trans ?_
      split at h
      · rename_i c3; exact if_pos c3
      · rename_i c3
        refine (if_neg c3).trans ?_
        split at h
        · rename_i c4; exact if_pos c4
        · split at h <;> cases h
theorem par1 {X : Cx} (hk : X.env.scope.kind = .function) {ts vs : List Expr} {k k2 : Nat} {p p2 : Pos} (h : parMode X.env.scope ts vs = 1) : swappedStores [.Tuple ts k p] (.Tuple vs k2 p2) X.env = pure (some (parNames X.env.scope ts)) ∧ (ts.length = 2 ∨ ts.length = 3) ∧ vs.length = ts.length ∧ (parNames X.env.scope ts).length = ts.length := by
  have hb : X.env.blockKind = .function := by unfold Env.blockKind; rw [hk]; rfl
  unfold swappedStores; dsimp only
  unfold parMode at h
  rw [hb]
  by_cases c1 : (!(ts.length == 2 || ts.length == 3) || vs.length != ts.length) = true
  · rw [if_pos c1] at h; cases h
  · rw [if_neg c1] at h
    split at h
    · cases h
    · rename_i c2
      split at h
      · cases h
      · rename_i c3
        split at h
        · cases h
        · rename_i c4
          split at h
          · cases h
          · rename_i c5
            refine ⟨(if_neg (by rw [Bool.not_eq_true] at c1; rw [c1]; decide)).trans ((if_neg c2).trans ((if_neg c3).trans ((if_neg c4).trans (if_neg c5)))), ?_, ?_, ?_⟩
            · simp at c1; omega
            · simp at c1; omega
            · simp only [bne_iff_ne, Bool.or_eq_true, not_or, Decidable.not_not] at c3; exact c3.1
def gAll : List Nat → TGs
  | [] => gNil
  | i :: is => gCons (gName i) (gAll is)
theorem gAll_of : ∀ {is : List Nat} {vs : List V} {σ : L2.St} {H : Hp} {Q : L2.St → Hp → Prop}, is.length = vs.length → Q (setAll σ is vs) H → gAll is vs σ H Q
  | [], [], σ, H, Q, _, h => ⟨rfl, h⟩
  | i :: is, v :: vs, σ, H, Q, hl, h => ⟨v, vs, rfl, gAll_of (by simpa using hl) h⟩
  | [], _ :: _, _, _, _, hl, _ => by simp at hl
  | _ :: _, [], _, _, _, hl, _ => by simp at hl
def tParO (n : Nat) (ta : TA) (tg : TGs) : TS := fun D σ H => ta σ H fun vs H1 => vs.length = n ∧ vs.length ≤ sizeLine ∧ tg vs σ H1 D.nx
theorem ps_parO {X : Cx} {es xs : List Expr} {ta : TA} {tg : TGs} {n k k2 : Nat} {p p2 pos : Pos} (hc : X.calm = true) (ha : PA X xs ta) (hg : PGs X es tg) (hn : (assignEach es X.env).length = n) (hst : (assignEach es X.env).findIdx? (·.1) = none)
    (hw : swappedStores [.Tuple es k p] (.Tuple xs k2 p2) X.env = pure none) (hs : swapsWithSole [.Tuple es k p] (.Tuple xs k2 p2) pos.line X.env = pure false := by rfl) : PS X (.Assign [.Tuple es k p] (.Tuple xs k2 p2) pos) (tParO n ta tg) := by
  refine ⟨fun pins s σ H D I h => ?_⟩
  refine wpAny_Assign_stores (Tuple_ (thn (ha.run _ pins s σ H _ I h) fun us s1 ⟨vs, H1, I1, r1, q1⟩ => ?_)) hs hw
  obtain ⟨hl, hz, q1⟩ := q1
  refine wpAny_newObj_type ?_ (by show us.toArray.size ≤ sizeLine; rw [List.size_toArray, ← r1.length]; exact hz)
  have I2 : Inv X pins σ H1 { s1 with heap := s1.heap.push { cls := .type "tuple", data := .seq us.toArray } } := I1.kept (t' := s1.toks) fun b o e => Heap.get?_push_of_some _ e
  show wpAny _ _ (assignAll _ [assign (.Tuple es k p) X.env]) _ _ _
  show wpAny _ _ (assign (.Tuple es k p) X.env _) _ _ _
  refine assign_Tuple_tuple (I.ok.hd hc) (IsTup.new s1.heap _) (by rw [hn, List.size_toArray, ← r1.length, hl]) hst fun h' hx => ?_
  have I3 := I2.kept (h' := h') (t' := s1.toks) fun b o e => hx b o (Nat.ne_of_lt (Heap.lt_size e)) e
  exact hg.run pins _ σ H1 vs _ _ I3 (by simpa using r1) q1
theorem chkSt_facts {C : Ck} {X : Cx} {i : Nat} {y : Str} (hN : X.N = C.N) (hsc : X.env.scope = C.sc) (hfn : ∀ x, C.fn x = true → X.fn x = true) (h : chkSt C i y = true) :
    X.N[i]? = some y ∧ Loc X.env.scope y ∧ (X.fn y = true ∨ X.env.scope.names.lookup y = some .local) := by
  simp only [chkSt, chkN, Bool.and_eq_true, Bool.or_eq_true, decide_eq_true_eq] at h
  obtain ⟨⟨h1, h2⟩, h3⟩ := h
  refine ⟨by rw [hN]; exact h1, ?_, ?_⟩
  · unfold locB at h2
    rw [hsc]
    split at h2 <;> first | exact .inl (by assumption) | exact .inr (by assumption) | cases h2
  · rcases h3 with h3 | h3
    · exact .inl (hfn y h3)
    · rw [hsc]
      split at h3 <;> first | exact .inr (by assumption) | cases h3
theorem pgs_names {C : Ck} {X : Cx} (hN : X.N = C.N) (hnd : X.N.Nodup) (hsc : X.env.scope = C.sc) (hfn : ∀ x, C.fn x = true → X.fn x = true) : ∀ {is : List Nat} {ts : List Expr}, chkNms C is ts = true → PGs X ts (gAll is) ∧ (assignEach ts X.env).length = is.length ∧ (assignEach ts X.env).findIdx? (·.1) = none
  | [], ts, h => by
    cases ts with
    | nil => exact ⟨pgs_nil, rfl, rfl⟩
    | cons _ _ => simp [chkNms] at h
  | i :: is, ts, h => by
    cases ts with
    | nil => simp [chkNms] at h
    | cons t ts =>
      cases t <;> first | (simp [chkNms] at h; done) | skip
      rename_i y p
      simp only [chkNms, Bool.and_eq_true] at h
      obtain ⟨h1, h2, h3⟩ := pgs_names hN hnd hsc hfn h.2
      obtain ⟨k1, k2, k3⟩ := chkSt_facts hN hsc hfn h.1
      have e : assignEach (.Name y p :: ts) X.env = (false, assign (.Name y p) X.env) :: assignEach ts X.env := rfl
      refine ⟨pgs_cons (pg_name hnd k1 k2 k3) h1 (by rw [e]; rfl), by rw [e]; simp [h2], by rw [e, List.findIdx?_cons]; simp [h3]⟩
theorem par_at {sc : Scope} {ts : List Expr} (h : (parNames sc ts).length = ts.length) : ∀ {y : Str} {p : Pos}, .Name y p ∈ ts → locK sc y = true ∧ (p.line == (ts.head?.map (·.pos.line)).getD 0) = true := by
  intro y p hm
  unfold parNames at h
  simp only at h
  have := List.filterMap_length_eq_length.mp h _ hm
  simp only at this
  split at this
  · rename_i c; simpa using c
  · cases this
theorem locK_eq {sc : Scope} {y : Str} (h : locK sc y = true) : sc.names.lookup y = some .local := by
  unfold locK at h
  cases e : sc.names.lookup y with
  | none => rw [e] at h; cases h
  | some k => rw [e] at h; cases k <;> first | rfl | cases h
theorem rdA_mono {S : Sx} {es : Es} {σ : L2.St} {H : Hp} {Q Q' : List V → Hp → Prop} (h : rdA S es σ H Q) (i : ∀ xs H1, Q xs H1 → Q' xs H1) : rdA S es σ H Q' := by
  obtain ⟨Z, env, fp, rel, h⟩ := h
  refine ⟨Z, env, fp, rel, ?_⟩
  cases q : evA S.M es env with
  | ok x =>
    rw [q] at h
    obtain ⟨a, env'⟩ := x
    exact fun b H' Z' fp' fr st kp rel t ap => i _ _ (h b H' Z' fp' fr st kp rel t ap)
  | exc c p env' => rw [q] at h; exact h
  | no => rw [q] at h; exact h.elim
theorem chkNms_cons {C : Ck} {i : Nat} {is : List Nat} {t : Expr} {ts : List Expr} (h : chkNms C (i :: is) (t :: ts) = true) : ∃ y p, t = .Name y p ∧ chkSt C i y = true ∧ chkNms C is ts = true := by
  cases t <;> first | (simp [chkNms] at h; done) | skip
  rename_i y p
  simp only [chkNms, Bool.and_eq_true] at h
  exact ⟨y, p, rfl, h.1, h.2⟩
theorem chkNms_len {C : Ck} : ∀ {is : List Nat} {ts : List Expr}, chkNms C is ts = true → is.length = ts.length
  | [], [], _ => rfl
  | [], _ :: _, h => by simp [chkNms] at h
  | _ :: _, [], h => by simp [chkNms] at h
  | i :: is, t :: ts, h => by
    obtain ⟨_, _, _, _, h⟩ := chkNms_cons h
    simp [chkNms_len h]
theorem ps_parAny {C : Ck} {X : Cx} {S : Sx} (hK : S.K = X.K) {is : List Nat} {es : Es} {ts vs : List Expr} {k k2 : Nat} {p p2 pos : Pos} (hN : X.N = C.N) (hnd : X.N.Nodup) (hsc : X.env.scope = C.sc) (hfn : ∀ x, C.fn x = true → X.fn x = true) (hc : X.calm = true) (hk : X.env.scope.kind = .function)
    (h1 : chkNms C is ts = true) (ha : PA X vs (rdA S es)) (hd : nodupN is = true) (hm : (parMode C.sc ts vs != 2) = true) (hz : is.length ≤ 100) :
    PS X (.Assign [.Tuple ts k p] (.Tuple vs k2 p2) pos) (rdS S (.par is es)) := by
  have hs : swapsWithSole [.Tuple ts k p] (.Tuple vs k2 p2) pos.line X.env = pure false := rfl
  rcases hq : parMode C.sc ts vs with _ | _ | m
  · obtain ⟨g1, g2, g3⟩ := pgs_names hN hnd hsc hfn h1
    refine (ps_parO hc ha g1 g2 g3 (par0 hk (by rw [hsc]; exact hq)) hs).imp fun D σ H h => ?_
    exact rdA_mono (par_core hK h) fun xs H1 q => ⟨q.1.symm, by rw [← q.1]; exact Nat.le_trans hz (by decide), gAll_of q.1 q.2⟩
  · obtain ⟨q1, q2, q3, q4⟩ := par1 (X := X) (k := k) (k2 := k2) (p := p) (p2 := p2) hk (by rw [hsc]; exact hq)
    rcases ts with _ | ⟨t1, _ | ⟨t2, _ | ⟨t3, _ | ⟨t4, ts⟩⟩⟩⟩ <;> (try (simp at q2; done))
    · rcases vs with _ | ⟨v1, _ | ⟨v2, _ | ⟨v3, vs⟩⟩⟩ <;> (try (simp at q3; done))
      have hl := chkNms_len h1
      rcases is with _ | ⟨i1, _ | ⟨i2, _ | ⟨i3, is⟩⟩⟩ <;> (try (simp at hl; done))
      obtain ⟨x, px, rfl, n1, h1⟩ := chkNms_cons h1
      obtain ⟨y, py, rfl, n2, h1⟩ := chkNms_cons h1
      obtain ⟨a1, a2, a3⟩ := chkSt_facts hN hsc hfn n1
      obtain ⟨b1, b2, b3⟩ := chkSt_facts hN hsc hfn n2
      obtain ⟨l1, l1'⟩ := par_at q4 (y := x) (p := px) (by simp)
      obtain ⟨l2, l2'⟩ := par_at q4 (y := y) (p := py) (by simp)
      have e : parNames X.env.scope [.Name x px, .Name y py] = [x, y] := by
        simp only [parNames, List.filterMap_cons, List.filterMap_nil, l1, l1', l2, l2', Bool.and_self, if_true]
      simp [nodupN] at hd
      refine (ps_par (i := i1) (j := i2) hc hnd a1 b1 hd (locK_eq l1) (locK_eq l2) ha (by rw [q1, e]) hs).imp fun D σ H h => ?_
      refine rdA_mono (par_core hK h) fun xs H1 q => ?_
      obtain ⟨q, r⟩ := q
      rcases xs with _ | ⟨u, _ | ⟨w, _ | ⟨z, xs⟩⟩⟩ <;> (try (simp at q; done))
      exact ⟨u, w, rfl, r⟩
    · rcases vs with _ | ⟨v1, _ | ⟨v2, _ | ⟨v3, _ | ⟨v4, vs⟩⟩⟩⟩ <;> (try (simp at q3; done))
      have hl := chkNms_len h1
      rcases is with _ | ⟨i1, _ | ⟨i2, _ | ⟨i3, _ | ⟨i4, is⟩⟩⟩⟩ <;> (try (simp at hl; done))
      obtain ⟨x, px, rfl, n1, h1⟩ := chkNms_cons h1
      obtain ⟨y, py, rfl, n2, h1⟩ := chkNms_cons h1
      obtain ⟨z, pz, rfl, n3, h1⟩ := chkNms_cons h1
      obtain ⟨a1, a2, a3⟩ := chkSt_facts hN hsc hfn n1
      obtain ⟨b1, b2, b3⟩ := chkSt_facts hN hsc hfn n2
      obtain ⟨c1, c2, c3⟩ := chkSt_facts hN hsc hfn n3
      obtain ⟨l1, l1'⟩ := par_at q4 (y := x) (p := px) (by simp)
      obtain ⟨l2, l2'⟩ := par_at q4 (y := y) (p := py) (by simp)
      obtain ⟨l3, l3'⟩ := par_at q4 (y := z) (p := pz) (by simp)
      have e : parNames X.env.scope [.Name x px, .Name y py, .Name z pz] = [x, y, z] := by
        simp only [parNames, List.filterMap_cons, List.filterMap_nil, l1, l1', l2, l2', l3, l3', Bool.and_self, if_true]
      simp [nodupN] at hd
      refine (ps_par3 (i := i1) (j := i2) (l := i3) hc hnd a1 b1 c1 hd.1.1 hd.1.2 hd.2 (locK_eq l1) (locK_eq l2) (locK_eq l3) ha (by rw [q1, e]) hs).imp fun D σ H h => ?_
      refine rdA_mono (par_core hK h) fun xs H1 q => ?_
      obtain ⟨q, r⟩ := q
      rcases xs with _ | ⟨u, _ | ⟨w, _ | ⟨z, _ | ⟨z2, xs⟩⟩⟩⟩ <;> (try (simp at q; done))
      exact ⟨u, w, z, rfl, r⟩
  · rw [hq] at hm
    have : m = 0 := by
      unfold parMode at hq
      repeat' split at hq
      all_goals omega
    subst this
    cases hm
end Rf
end

-- text RfSl
section
set_option Elab.async false
set_option linter.all false
set_option maxRecDepth 100000
set_option maxHeartbeats 4000000
/-! RfSl: a run of a list's places takes another list. -/
namespace Rf
open PySem PySem.Spec PyProof PyProof.Rows L2

section
variable {prog : Program} {w : World} {A : Around} {E : Value → Shared → Prop} {s : Shared}
/-- the new items may stand in any list -/
theorem put_run {l b sl : Addr} {items new : Array Value} {n n2 : Nat} {dd : Option Addr} {st : Array (Option Value)} {vl vu : Value} {a c : Nat} {Q : Unit → Shared → Prop}
    (e : s.heap.get? l = some { cls := .type "list", data := .seq items n }) (e2 : s.heap.get? b = some { cls := .type "list", dict := dd, data := .seq new n2, slots := st }) (hne : l ≠ b)
    (hs : s.heap.IsSliceOf sl vl vu .none) (pl : IsPart vl (some (a : Int))) (pu : IsPart vu (some (c : Int))) (hac : a ≤ c) (hc : c ≤ items.size)
    (hsz : items.size + new.size ≤ sizeLine) (h : Q () { s with heap := s.heap.update l (Obj.mapSeq fun xs => xs.extract 0 a ++ new ++ xs.extract c xs.size) }) :
    wpAny (model prog w) A (setItem (.ref l) (.ref sl) (.ref b)) Q E s := by
  have tl : s.TypeIs (.ref l) "list" := ⟨_, e, rfl⟩
  have tb : s.TypeIs (.ref b) "list" := ⟨_, e2, rfl⟩
  obtain ⟨os, hos, hcs, hds⟩ := id hs
  have ts : s.TypeIs (.ref sl) "slice" := ⟨os, hos, hcs⟩
  have other : Builtin.List.listSameRef (.ref l) (.ref b) = false := by
    unfold Builtin.List.listSameRef
    exact beq_eq_false_iff_ne.mpr hne
  have top : (max (a : Int) (c : Int)).toNat = c := by omega
  have still : ¬ ((rawPart none == rawInt 0) = true) := Bool.false_ne_true
  have room : ((fun xs : Array Value => xs.extract 0 a ++ new ++ xs.extract c xs.size) items).size ≤ sizeLine + 1 := by
    simp only [Array.size_append, Array.size_extract]
    omega
  unfold setItem
  try with_reducible refine wpAny_holding ?_
  first | refine wpAny_bind (wpAny_pure ?_) | skip
  refine wpAny_bind (wpAny_sequenceKey tl (by decide) ?_)
  refine wpAny_bind (wpAny_callSpecial?_slot (name := Str.ofString "__setitem__") tl slot_list_setitem (wpAny_call_entry slot_list_setitem tl entry_list_setitem ?_ (args_list_setitem _ _ _)))
  show wpAny _ _ (Builtin.List.listSubscript? (.ref sl) >>= _) _ _ s
  refine wpAny_bind ?_
  unfold Builtin.List.listSubscript?
  refine wpAny_bind (wpAny_specialOf ts slice_no_index ?_)
  simp only [Option.isNone_none, if_true]
  refine wpAny_pure ?_
  show wpAny _ _ (typeOf (.ref sl) >>= _) _ _ s
  refine wpAny_bind (wpAny_typeOf ts ?_)
  first
    | rw [if_neg (by decide)]
    | refine PySem.W.KFB.if_not (by decide) ?_
  rw [listSliceParts_eq]
  refine wpAny_bind (wpAny_bind (wpAny_field hos hds (x := .none) rfl (wpAny_bind (wpAny_listPart .none ?_))))
  rw [if_neg still]
  refine wpAny_bind (wpAny_field hos hds (x := vl) rfl (wpAny_bind (wpAny_listPart pl ?_)))
  refine wpAny_bind (wpAny_field hos hds (x := vu) rfl (wpAny_bind (wpAny_listPart pu (wpAny_pure ?_))))
  first
    | simp only [other, Bool.false_eq_true, if_false]
    | refine PySem.W.KFB.if_not other ?_
  refine wpAny_bind (m := Builtin.List.listAllItems (.ref b) "must assign iterable to extended slice") ?_
  unfold Builtin.List.listAllItems
  refine wpAny_bind (wpAny_typeOf tb ?_)
  first
    | refine PySem.W.KFB.if_so (by decide) ?_
    | rw [if_pos (by decide)]
  unfold Builtin.List.listItems
  refine wpAny_bind (wpAny_seqItems e2 rfl (wpAny_pure ?_))
  refine wpAny_bind (wpAny_bind (wpAny_seqItems e rfl (wpAny_pure ?_)))
  refine wpAny_bind (wpAny_of_eq ((sliceIndices_raw (some (a : Int)) (some (c : Int)) none items.size (by simp)).trans (congrArg (pure : Int × Int × Int → Sem (Int × Int × Int)) (bounds_run hac hc))) ?_)
  show wpAny _ _ (if ((1 : Int) == 1) = true then _ else _) _ _ s
  rw [if_pos (by decide)]
  refine wpAny_bind (wpAny_rule ?_)
  first
    | simp only [notLongL hsz, Bool.false_eq_true, if_false]
    | refine PySem.W.KFB.if_not (notLongL hsz) ?_
  first | refine wpAny_bind (wpAny_pure ?_) | skip
  show wpAny _ _ (updateSeq l (fun xs => xs.extract 0 ((a : Int)).toNat ++ new ++ xs.extract (max (a : Int) (c : Int)).toNat xs.size) >>= _) _ _ s
  rw [top, Int.toNat_natCast]
  refine wpAny_bind (wpAny_updateSeq (hz := Nat.le_trans (Nat.le_add_right _ _) hsz) (_hz' := room) e rfl ?_)
  refine wpAny_bind (wpAny_letGo ?_)
  first
    | exact wpAny_bind (wpAny_pure (wpAny_pure ⟨.none, rfl, wpAny_pure h⟩))
    | exact wpAny_pure ⟨.none, rfl, wpAny_pure h⟩
end

section
variable {X : Cx}
def gSls (K : PySem.W.Frag) (to tl th : TE) : TG := fun v σ H Q => to σ H fun o H1 => tPart tl σ H1 fun x H2 => tPart th σ H2 fun y H3 => ∃ l b xs ys a c, o = .ref l ∧ v = .ref b ∧ x = some a ∧ y = some c ∧ H3 l = some (.lst xs) ∧ SqL K H3 b ys ∧ (K.lookup b = none → l ≠ b) ∧ 0 ≤ a ∧ a ≤ c ∧ c ≤ (xs.length : Int) ∧ xs.length + ys.length ≤ sizeLine ∧ Q σ (upd H3 l (.lst (xs.take a.toNat ++ ys ++ xs.drop c.toNat)))
theorem pg_sls {o lo hi : Expr} {to tl th : TE} {p2 pos : Pos} (ho : PE X o to) (hl : PE X lo tl) (hh : PE X hi th) : PG X (.Subscript o (.Slice (some lo) (some hi) none p2) pos) (gSls X.K to tl th) := by
  refine ⟨fun pins s σ H v u Q I r h => ?_⟩
  rw [(rfl : assign (.Subscript o (.Slice (some lo) (some hi) none p2) pos) X.env u = (do
    let ov ← holding [u] (eval o X.env)
    let iv ← holding [u, ov] (eval (.Slice (some lo) (some hi) none p2) X.env)
    standAt pos
    holding [u, ov, iv] (setItem ov iv u)
    release [iv, u, ov] []))]
  refine wpAny_bind (wpAny_holding (thn (ho.run pins s σ H _ I h) fun ov s1 ⟨x, H1, I1, r1, q1⟩ => ?_))
  refine wpAny_bind (wpAny_holding (wpAny_Slice (thn ((po_some hl).run pins s1 σ H1 _ I1 q1) fun vl s2 ⟨la, H2, I2, pl, q2⟩ => ?_)))
  refine thn ((po_some hh).run pins s2 σ H2 _ I2 q2) fun vu s3 ⟨lc, H3, I3, pu, q3⟩ => ?_
  obtain ⟨l, b, xs, ys, a, c, rfl, rfl, rfl, rfl, hH, hB, hne, h0, hac, hc, hz, q⟩ := q3
  obtain ⟨a, rfl⟩ := Int.eq_ofNat_of_zero_le h0
  obtain ⟨c, rfl⟩ := Int.eq_ofNat_of_zero_le (Int.le_trans h0 hac)
  simp only [Int.toNat_natCast] at q
  rw [evalPart_none]
  refine wpAny_pure ?_
  have I4 : Inv X pins σ H3 { s3 with heap := s3.heap.push { cls := .type "slice", data := .fields #[vl, vu, .none] } } := I3.kept (t' := s3.toks) fun b ob q => Heap.get?_push_of_some _ q
  cases r
  cases r1
  obtain ⟨z, its, n, rr, hl, e⟩ := I4.lstM hH
  obtain ⟨its2, r2, ⟨⟨cl2, dd2, da2, sl2⟩, n2, h2, c2, d2, e2⟩, z2⟩ := I4.list hB
  simp only at c2 e2
  subst c2 e2
  have hl2 := r2.length
  have hne : l ≠ b := by
    cases hk : X.K.lookup b with
    | none => exact hne hk
    | some o =>
      intro q
      subst q
      have := (I4.bs l o (I4.mod.kin l o hk)).2
      rw [this] at hH
      cases hH
  refine wpAny_bind (wpAny_standAt (wpAny_bind (wpAny_holding ?_)))
  refine put_run e h2 hne (Heap.IsSliceOf.new ..) pl pu (by omega) (by rw [List.size_toArray]; omega) (by rw [List.size_toArray, List.size_toArray]; omega) (wpAny_release ⟨σ, _, I4.lset (t' := s3.toks) (its := its) (its' := its.take a ++ its2 ++ its.drop c) (n := n) (f := fun xs => xs.extract 0 a ++ its2.toArray ++ xs.extract c xs.size) hH e (splice_eq its its2 a c) (Vals.append (Vals.append (rr.take _) r2) (rr.drop _)) ?_, q⟩)
  rw [List.length_append, List.length_append, List.length_take, List.length_drop]
  omega
end

theorem vwI {o : Option D} {a : Int} (h : o.bind intD = some a) : o = some (.int a) := by
  cases o with
  | none => cases h
  | some d =>
    change intD d = some a at h
    unfold intD at h
    split at h
    · cases h; rfl
    · cases h
theorem slsW_eq {s s' : Sv} {a c : Int} {d : D} (h : slsW s a c d = some s') : ∃ xs ys, s = .lst xs ∧ d = .list ys ∧ 0 ≤ a ∧ a ≤ c ∧ c ≤ (xs.length : Int) ∧ sizeOk (xs.length + ys.length) = true ∧ s' = .lst (xs.take a.toNat ++ ys ++ xs.drop c.toNat) := by
  unfold slsW at h
  split at h
  · split at h
    · rename_i q
      cases h
      simp only [Bool.and_eq_true, decide_eq_true_eq] at q
      exact ⟨_, _, rfl, rfl, q.1.1, q.1.2, q.2.1, q.2.2, rfl⟩
    · cases h
  · cases h
section
variable {X : Cx} {S : Sx}
theorem sls_core (hK : S.K = X.K) {x lo hi v : E} {D : Ends} {σ : L2.St} {H : Hp} (h : rdS S (.sls x lo hi v) D σ H) : tAsg (rdE S v) (gSls X.K (rdE S x) (rdE S lo) (rdE S hi)) D σ H := by
  obtain ⟨Z, env, fp, rel, h⟩ := h
  unfold exS at h
  refine ⟨Z, env, fp, rel, PoS.seq h fun r e1 u H1 Z1 fp1 fr1 st1 kp1 rel1 t1 ap1 h => ?_⟩
  obtain ⟨d, e2, Z2, fp2, _, st2, kp2, rel2, hd, h⟩ := PoS.frz h t1 rel1 ap1
  refine ⟨Z2, e2, fp2, rel2, PoS.seq h fun rx e3 o H3 Z3 fp3 fr3 st3 kp3 rel3 t3 ap3 h => ?_⟩
  refine ⟨Z3, e3, fp3, rel3, PoS.seq h fun ra e4 x4 H4 Z4 fp4 fr4 st4 kp4 rel4 t4 ap4 h => ?_⟩
  obtain ⟨a, ea, h⟩ := h.opt
  have ha := t4.vw rel4 (vwI ea)
  cases ha
  refine ⟨a, rfl, Z4, e4, fp4, rel4, PoS.seq h fun rc e5 x5 H5 Z5 fp5 fr5 st5 kp5 rel5 t5 ap5 h => ?_⟩
  obtain ⟨c, ec, h⟩ := h.opt
  have hc := t5.vw rel5 (vwI ec)
  cases hc
  refine ⟨c, rfl, ?_⟩
  have hd5 : Rp S.K H5 Z5 u d := ((hd.step st3 rel2.zo).step st4 rel3.zo).step st5 rel4.zo
  cases rx with
  | plc j =>
    dsimp only at h
    cases hs : slot e5 j with
    | none => rw [hs] at h; exact h.elim
    | some s =>
      rw [hs] at h
      dsimp only at h
      cases hw : slsW s a c d with
      | none => rw [hw] at h; exact h.elim
      | some s' =>
        rw [hw] at h
        obtain ⟨xs, ys, rfl, rfl, h0, hac, hcl, hz, rfl⟩ := slsW_eq hw
        obtain ⟨w, hv, hr⟩ := rel5.at_ j _ hs
        obtain ⟨l, us, rfl, hf, eh, ra', nz⟩ := hr
        obtain ⟨ho, _, _⟩ := t3
        rw [hv] at ho
        cases ho
        have hb : ∃ b zs, u = .ref b ∧ RpAll S.K H5 Z5 zs ys ∧ SqL X.K H5 b zs ∧ (X.K.lookup b = none → l ≠ b) := by
          rw [← hK]
          cases hd5 with
          | lst z r q => exact ⟨_, _, rfl, q, .inl r, fun _ e => nz (by rw [e]; exact z)⟩
          | slst r q =>
            refine ⟨_, _, rfl, q, r H5, fun hk => ?_⟩
            rcases r (fun _ => none) with e | ⟨o, _, _, e, _⟩
            · rcases e with e | ⟨_, e⟩ <;> cases e
            · rw [e] at hk; cases hk
        obtain ⟨b, zs, rfl, rb, hb, hne⟩ := hb
        refine ⟨l, b, us, zs, a, c, rfl, rfl, rfl, rfl, eh, hb, hne, h0, hac, by rw [ra'.length]; exact hcl, by rw [ra'.length, rb.length]; exact sizeOk_le hz, ?_⟩
        have hn : SvR S.K (upd H5 l (.lst (us.take a.toNat ++ zs ++ us.drop c.toNat))) Z5 (.lst (xs.take a.toNat ++ ys ++ xs.drop c.toNat)) (.ref l) [l] := ⟨l, _, rfl, rfl, upd_same, (((ra'.take _).append rb).append (ra'.drop _)).mono (fun _ h => h) fun a o z e => by rw [upd_ne fun q => nz (by rw [← q]; exact z)]; exact e, nz⟩
        exact h σ (upd H5 l (.lst (us.take a.toNat ++ zs ++ us.drop c.toNat))) Z5 fp5 ((write_step hf).weak (fun _ h => h) fun x o => .inl (.inl o)) .refl (rel5.write hs hv hf hn)
  | _ => exact h.elim
end
end Rf
end

-- text RfW
section
set_option Elab.async false
set_option linter.all false
set_option maxRecDepth 100000
set_option maxHeartbeats 4000000
/-! RfW: raise, try, a = b = e. -/
namespace Rf
open PySem PySem.Spec PyProof.Rows L2
abbrev TX := Addr → Value → Option Addr → TS
/-- X() -/
theorem pmk_own0 {X : Cx} {C : Addr} {bmB : List Value} {B newId initId : String} {x : Str} {p pos : Pos} (F : ExcBaseFacts B newId initId bmB) (q : PySem.W.excIn X.K C bmB newId = true) (gC : X.mg x = some (.ref C)) (kC : PySem.W.keepIn X.K (.ref C) = true) (r : Raises X (.ref C)) (hg : Gl X x)
    (hdb : (x == ("__debug__" : Str)) = false) : PMk X (.Call (.Name x p) [] [] pos) (fun _ H Q => Q (.ref C) none H) := by
  intro pins s σ H Q I h
  refine wpAny_Call_Name_kw (ld_glob I hg gC ?_ hdb)
  refine PySem.W.callWith_K0 I.kIn kC ?_
  show wpAny _ _ (call (.ref C) []) _ _ _
  obtain ⟨bm, N, nm, qn, bs, hdct, sn, sub, ab, col, dd, k0, k1, k2, k3, k5, mN, hC, hN, hni, T⟩ := exc_obj I.kIn q
  refine wpAny_call_exc_subT F T hC hN hni (fun h' e hm => ?_) (by show 0 ≤ sizeLine; exact Nat.zero_le _)
  exact mk_of I hm r h (I.hok.gone hm.new)
theorem ok_rai {X : Cx} {C : Ck} {S : Sx} {k : Nat} {y : Str} {p1 p2 p3 : Pos} (c : Cn X C S) (hk : C.exn[k]? = some y) (hp : C.exp.contains k = false) (hg : Gl X y) (hd : (y == ("__debug__" : Str)) = false) : PS X (.Raise (some (.Call (.Name y p1) [] [] p2)) none p3) (rdS S (.rai k)) := by
  obtain ⟨A, h1, h2, h3, h4, h5, h6, _⟩ := c.rai k y hk
  refine (ps_raise c.calm c.tk (pmk_own0 PySem.F.excBase_ValueError (h3 hp) h1 h2 (raises_own h4 h5) hg hd)).imp fun D σ H h => ?_
  obtain ⟨Z, env, fp, rel, h⟩ := h
  unfold exS at h
  exact h _ _ σ H Z fp (Step.refl.weak (fun _ h => h) fun x o => .inl (.inl o)) .refl rel (h6 H Z)
theorem Cn.tr {X : Cx} {C : Ck} {S : Sx} {W : WX} {pn : List (Addr × Obj)} {xe : Value → Shared → Prop} (c : Cn X C S) (tk : Takes (X.tr pn xe) W) : Cn (X.tr pn xe) C { S with W := W } :=
  { K := c.K, N := c.N, nd := c.nd, sc := c.sc, fn := c.fn, calm := c.calm, un := c.un, blt := c.blt, zp := c.zp, en := c.en, ii := c.ii, bl := c.bl, tk := tk, gc := c.gc, rai := c.rai, rm := c.rm, rap := c.rap, calls := c.calls }
/-- constants of an except suite -/
def cnB : D → Const → Bool
  | .str z, .str y => decide (z = y) && sizeOk z.length && PyData.strOk z
  | .none, .none => true
  | _, _ => false
def cnE : D → E
  | .str z => .str z
  | _ => .non
def chkHs (C : Ck) : List (Nat × Nat × D) → List ExceptHandler → Bool
  | [], [] => true
  | (k, i, v) :: r, .ExceptHandler (some (.Name y _)) none [.Assign [.Name x _] (.Constant w _ _) _] _ :: hl => decide (C.exn[k]? = some y) && glB C.sc y && chkSt C i x && cnB v w && chkHs C r hl
  | _, _ => false
theorem loc_of {X : Cx} {C : Ck} {S : Sx} (c : Cn X C S) {i : Nat} {y : Str} (h : chkSt C i y = true) : X.N[i]? = some y ∧ Loc X.env.scope y ∧ (X.fn y = true ∨ X.env.scope.names.lookup y = some .local) := by
  simp only [chkSt, chkN, Bool.and_eq_true, Bool.or_eq_true, decide_eq_true_eq] at h
  obtain ⟨⟨h1, h2⟩, h3⟩ := h
  refine ⟨by rw [c.N]; exact h1, ?_, ?_⟩
  · unfold locB at h2
    rw [c.sc]
    split at h2 <;> first | exact .inl (by assumption) | exact .inr (by assumption) | cases h2
  · rcases h3 with h3 | h3
    · exact .inl (c.fn y h3)
    · rw [c.sc]
      split at h3 <;> first | exact .inr (by assumption) | cases h3
def suiteT (S : Sx) (i : Nat) (v : D) : TX := fun _ _ _ => rdS S (.asg (.nm i) (cnE v))
theorem suite_ok {X : Cx} {C : Ck} {S : Sx} (c : Cn X C S) {i j : Nat} {x : Str} {v : D} {w : Const} {p p2 p3 : Pos} (h : chkSt C i x = true) (hc : cnB v w = true) (a : Addr) (oe : Obj) (cls : Value) (d : Option Addr) (pn : List (Addr × Obj)) :
    PSs (X.suite a ((a, oe) :: pn)) [.Assign [.Name x p] (.Constant w j p2) p3] (suiteT S i v a cls d) := by
  obtain ⟨h1, h2, h3⟩ := loc_of c h
  have he : PE (X.suite a ((a, oe) :: pn)) (.Constant w j p2) (rdE S (cnE v)) := by
    cases v with
    | str z =>
      cases w with
      | str y =>
        simp only [cnB, Bool.and_eq_true, decide_eq_true_eq] at hc
        obtain ⟨⟨rfl, h1⟩, h2⟩ := hc
        exact ok_cst (X := X.suite a ((a, oe) :: pn)) c.K pe_str (fun env => by unfold cnE; rw [evE]) fun H Z => .str z ⟨sizeOk_le h1, h2⟩
      | _ => simp [cnB] at hc
    | none =>
      cases w with
      | none => exact ok_cst (X := X.suite a ((a, oe) :: pn)) c.K pe_non (fun env => by unfold cnE; rw [evE]) fun H Z => .non
      | _ => simp [cnB] at hc
    | _ => simp [cnB] at hc
  exact (pss_one ((ps_set (X := X.suite a ((a, oe) :: pn)) (i := i) c.nd h1 h2 he rfl h3).imp fun D σ H h => asg_name_core (X := X) c.K h))
theorem cn_ex {M : Mach} {v : D} {w : Const} (hc : cnB v w = true) (i : Nat) (e : En) : exS M (.asg (.nm i) (cnE v)) e = Fl.opt (store M e i (.dat v)) fun e2 => .nx e2 := by
  cases v with
  | str z => unfold cnE exS; rw [evE]; rfl
  | none => unfold cnE exS; rw [evE]; rfl
  | _ => cases w <;> simp [cnB] at hc
theorem hs_ok {X : Cx} {C : Ck} {S : Sx} (c : Cn X C S) : ∀ {hs : List (Nat × Nat × D)} {hl : List ExceptHandler}, chkHs C hs hl = true → ∃ cs, HdsOk X hl cs ∧ (∀ k i v, hFind hs k = some (i, v) → ∃ w, cnB v w = true) ∧
    ∀ k p cls d D σ H Z, S.XR k p cls d H Z → (∀ i v, hFind hs k = some (i, v) → ∀ a cls d, suiteT S i v a cls d D σ H) → (hFind hs k = none → S.W cls d σ H) → wMany X.K S.W D cs cls d σ H
  | [], [], _ => ⟨[], .nil, fun k i v h => by simp [hFind] at h, fun k p cls d D σ H Z _ _ h => h rfl⟩
  | [], _ :: _, h => by simp [chkHs] at h
  | _ :: _, [], h => by simp [chkHs] at h
  | (k0, i0, v0) :: r, h0 :: hl, h => by
    unfold chkHs at h
    split at h
    · rename_i e1 e2
      cases e1
    · rename_i k i v r' y p1 x p2 w j p3 p4 p5 hl' e1 e2
      cases e1
      cases e2
      simp only [Bool.and_eq_true, decide_eq_true_eq] at h
      obtain ⟨⟨⟨⟨h1, h2⟩, h3⟩, h4⟩, h5⟩ := h
      obtain ⟨A, g1, _, _, _, _, _, g7⟩ := c.rai k0 y h1
      obtain ⟨hg, hd⟩ := c.gl h2
      obtain ⟨cs, q1, q2, q3⟩ := hs_ok c h5
      refine ⟨(.ref A, suiteT S i0 v0) :: cs, .cons ⟨hg, hd, .inl g1⟩ (fun a oe cls d pn _ _ => suite_ok c h3 h4 a oe cls d pn) q1, fun k i v e => ?_, fun k p cls d D σ H Z xr hy hn => ?_⟩
      · unfold hFind at e
        split at e
        · cases e; exact ⟨w, h4⟩
        · exact q2 k i v e
      · refine ⟨k == k0, g7 k p cls d H Z xr, fun e a _ => ?_, fun e => ?_⟩
        · exact hy i0 v0 (by unfold hFind; rw [if_pos e]) a cls d
        · refine q3 k p cls d D σ H Z xr (fun i v q => hy i v (by unfold hFind; rw [if_neg (by rw [e]; exact Bool.false_ne_true)]; exact q)) fun q => hn (by unfold hFind; rw [if_neg (by rw [e]; exact Bool.false_ne_true)]; exact q)
    · cases h
theorem ok_tri {X : Cx} {C : Ck} {S : Sx} {b : Ss} {hs : List (Nat × Nat × D)} {hl : List ExceptHandler} {body : List Stmt} {pos : Pos} (c : Cn X C S) (hst : X.stack = X.env :: X.outer) (hf : X.env.frame = some X.env.locals) (hh : chkHs C hs hl = true) (hn : hs.isEmpty = false)
    (hb : ∀ (W : WX) (pn : List (Addr × Obj)) (xe : Value → Shared → Prop), Takes (X.tr pn xe) W → PassesOwn (model X.prog X.w) X.A X.env xe → PSs (X.tr pn xe) body (rdSs { S with W := W } b)) : PS X (.Try body hl [] [] pos) (rdS S (.tri b hs)) := by
  obtain ⟨cs, q1, q2, q3⟩ := hs_ok c hh
  cases hl with
  | nil =>
    cases hs with
    | nil => cases hn
    | cons _ _ => simp [chkHs] at hh
  | cons h0 hl =>
    refine (ps_try_many hst hf c.tk hb q1).imp fun D σ H h => ?_
    obtain ⟨Z, env, fp, rel, h⟩ := h
    unfold exS at h
    refine ⟨Z, env, fp, rel, ?_⟩
    show PoS { S with W := wMany X.K S.W D cs } σ H Z env fp [] D (exSs S.M b env)
    cases q : exSs S.M b env with
    | nx e1 => rw [q] at h; exact h
    | bk e1 => rw [q] at h; exact h
    | ct e1 => rw [q] at h; exact h
    | rt s e1 => rw [q] at h; exact h
    | no => rw [q] at h; exact h
    | ex k p e1 =>
      rw [q] at h
      intro cls d σ' H' Z' fp' st pe rel' xr
      refine q3 k p cls d D σ' H' Z' xr (fun i v hv a cls d => ?_) fun hv => ?_
      · obtain ⟨w, hw⟩ := q2 k i v hv
        have h : PoS S σ H Z env fp [] D (Fl.opt (store S.M e1 i (.dat v)) .nx) := by
          have h : PoS S σ H Z env fp [] D (match hFind hs k with | some (i, v) => Fl.opt (store S.M e1 i (.dat v)) .nx | none => .ex k p e1) := h
          rw [hv] at h
          exact h
        refine ⟨Z', e1, fp', rel', ?_⟩
        rw [cn_ex hw]
        exact PoS.adv h st.owr pe
      · have h : PoS S σ H Z env fp [] D (match hFind hs k with | some (i, v) => Fl.opt (store S.M e1 i (.dat v)) .nx | none => .ex k p e1) := h
        rw [hv] at h
        exact h cls d σ' H' Z' fp' st pe rel' xr
theorem ok_as2 {X : Cx} {C : Ck} {S : Sx} {i j : Nat} {y z : Str} {e : E} {v : Const} {k : Nat} {p p1 p2 pos : Pos} (c : Cn X C S) (h1 : chkSt C i y = true) (h2 : chkSt C j z = true) (he : PE X (.Constant v k p) (rdE S e)) :
    PS X (.Assign [.Name y p1, .Name z p2] (.Constant v k p) pos) (rdS S (.as2 i j e)) := by
  obtain ⟨a1, a2, a3⟩ := loc_of c h1
  obtain ⟨b1, b2, b3⟩ := loc_of c h2
  refine ⟨fun pins s σ H D I h => ?_⟩
  obtain ⟨Z, env, fp, rel, h⟩ := h
  unfold exS at h
  refine wpAny_Assign_stores (thn (he.run pins s σ H (fun x H1 => D.nx ((σ.set i (some x)).set j (some x)) H1) I ⟨Z, env, fp, rel, PoS.seq h fun r e1 x H1 Z1 fp1 fr1 st1 kp1 rel1 t1 ap1 h => ?_⟩) fun v s1 ⟨x, H1, I1, r1, q1⟩ => ?_) rfl rfl
  · dsimp only at h
    cases r with
    | dat d =>
      obtain ⟨hr, rfl⟩ := t1
      dsimp only at h
      cases g1 : store S.M e1 i (.dat d) with
      | none => rw [g1] at h; exact h.elim
      | some e2 =>
      rw [g1] at h
      dsimp only [Fl.opt_some] at h
      cases g2 : store S.M e2 j (.dat d) with
      | none => rw [g2] at h; exact h.elim
      | some e3 =>
      rw [g2] at h
      obtain ⟨r2, c2⟩ := store_ok' c.K rel1 g1 (v := x) (f := []) ⟨hr, rfl⟩ (fun a ha => by simp at ha)
      obtain ⟨r3, c3⟩ := store_ok' c.K r2 g2 (v := x) (f := []) ⟨hr, rfl⟩ (fun a ha => by simp at ha)
      refine h _ H1 Z1 _ ?_ (PinEq.trans c2.pin c3.pin) r3
      refine Step.refl.weak (fun x o => by simpa using o) fun x o => .inl ?_
      obtain ⟨l, hl⟩ := o
      change x ∈ (if l = j then [] else if l = i then [] else fp1 l) at hl
      split at hl
      · simp at hl
      · split at hl
        · simp at hl
        · exact .inl ⟨l, hl⟩
    | _ => exact h.elim
  · show wpAny _ _ (do holding [v] (assign (.Name y p1) X.env v); assign (.Name z p2) X.env v) _ _ _
    refine wpAny_bind (wpAny_holding ?_)
    refine wpAny_assign_Name (store_ok I1 c.nd a1 a2 r1 (fun s2 I2 => ?_) a3)
    refine wpAny_assign_Name (store_ok I2 c.nd b1 b2 r1 (fun s3 I3 => ?_) b3)
    exact ⟨_, _, I3, q1⟩
/-! ### exceptions that bear their place -/
theorem noCX' {P : Program} {w : World} {l : List Env} {H : Hp} {s : Shared} {e : Value} {s' : Shared} (h : L2.CX P w l H s (fun _ _ _ => False) e s') : False := by
  obtain ⟨_, _, _, _, _, _, _, _, _, _, _, _, z⟩ := h
  exact z
theorem ok_rap {X : Cx} {C : Ck} {S : Sx} {k : Nat} {e : E} {y : Str} {z : Expr} {p1 p2 p3 : Pos} (c : Cn X C S) (hk : C.exn[k]? = some y) (hp : C.exp.contains k = true) (hg : Gl X y) (hd : (y == ("__debug__" : Str)) = false) (he : PE X z (rdE S e)) (hz : isStar z = false) :
    PS X (.Raise (some (.Call (.Name y p1) [z] [] p2)) none p3) (rdS S (.rap k e)) := by
  obtain ⟨A, fI, fd, h1, h2, h3, h4, h5, h6, h7, h8, h9, _⟩ := c.rap k y hk hp
  have hst : starEach [z] X.env = (false, eval z X.env) :: starEach [] X.env := star_plain hz [] X.env
  refine (ps_raise c.calm c.tk (pmk_oex (X := X) h2 h5 h6 h7 c.rm h8 .nil (fun pins σ H s e s' I h => (noCX' h).elim) hg h1 (pa_cons he pa_nil hst) hd hst rfl)).imp fun D σ H h => ?_
  obtain ⟨Z, env, fp, rel, h⟩ := h
  unfold exS at h
  refine ⟨Z, env, fp, rel, PoS.seq h fun r e1 x H1 Z1 fp1 fr1 st1 kp1 rel1 t1 ap1 h => ?_⟩
  obtain ⟨d, e2, Z2, fp2, _, st2, kp2, rel2, hd2, h⟩ := PoS.frz h t1 rel1 ap1
  refine ⟨by simp, fun a na => ⟨a, x, rfl, upd_same, fun dx nx ne => ?_⟩⟩
  have nx1 : H1 dx = none := by rw [upd_ne ne] at nx; exact nx
  refine ⟨rfl, dx, [("place", x)], upd_same, by rw [upd_ne ne, upd_same], nx1, ?_⟩
  have eh : upd (del (upd (upd (upd H1 a (exo a A none)) dx (exd dx [("place", x)])) a (exo a A (some dx))) a) dx (.xd [("place", x)]) = upd H1 dx (.xd [("place", x)]) := by
    funext b
    by_cases hb : b = dx
    · rw [hb, upd_same, upd_same]
    · rw [upd_ne hb, upd_ne hb]
      by_cases ha : b = a
      · rw [ha, del_same, na]
      · rw [del_ne ha, upd_ne ha, upd_ne hb, upd_ne ha]
  rw [eh]
  have g : Grow H1 Z2 (upd H1 dx (.xd [("place", x)])) (zadd Z2 dx) := .newZ nx1
  exact h (.ref A) (some dx) σ (upd H1 dx (.xd [("place", x)])) (zadd Z2 dx) fp2 (g.step.weak (fun x o => .inl o) fun x o => .inl o) .refl (rel2.grow g rel2.zs.newZ) (h9 _ _ _ _ _ upd_same (.inr rfl) (hd2.grow g))
/-- what an except suite stores: the place, or a pair of a text and the place -/
def plB (v : Option Str) (nm : Str) : Expr → Bool
  | .Attribute (.Name m _) at_ _ => (match v with | none => true | some _ => false) && decide (m = nm) && decide (at_ = "place")
  | .Tuple [.Constant (.str z) _ _, .Attribute (.Name m _) at_ _] _ _ => (match v with | none => false | some y => decide (y = z) && sizeOk z.length && PyData.strOk z) && decide (m = nm) && decide (at_ = "place")
  | _ => false
def tPl (v : Option Str) (a : Addr) (cls : Value) (d : Option Addr) (A : Addr) (n : Nat) : TE := match v with
  | none => tXf a cls d A "place" (tVar n)
  | some z => fun σ H Q => tCons (tC (.str z)) (tCons (tXf a cls d A "place" (tVar n)) tNil) σ H fun xs H1 => xs.length ≤ sizeLine ∧ ∃ fz, NewT H1 fz xs Q
theorem pe_pl {X : Cx} {C : Ck} {S : Sx} (c : Cn X C S) {v : Option Str} {w : Expr} {n : Nat} {nm : Str} {a A : Addr} {oe : Obj} {cls : Value} {d : Option Addr} {pn : List (Addr × Obj)} (T : XfC X.K A) (hno : PySem.W.findIn X.K (.ref A) "place" = some none) (hz : Zc cls d oe) (hf : ∃ vs, oe.data = .fields vs)
    (hN : X.N[n]? = some nm) (hv : Vis X.env.scope nm) (h1 : (nm == ("__debug__" : Str)) = false) (h2 : (nm == ("__classdict__" : Str)) = false) (h : plB v nm w = true) : PE (X.suite a ((a, oe) :: pn)) w (tPl v a cls d A n) := by
  have hvar : ∀ p, PE (X.suite a ((a, oe) :: pn)) (.Name nm p) (tVar n) := fun p => pe_var (X := X.suite a ((a, oe) :: pn)) hN hv h1 h2
  unfold plB at h
  split at h
  · rename_i m p at_ q
    simp only [Bool.and_eq_true, decide_eq_true_eq] at h
    obtain ⟨⟨hv0, rfl⟩, rfl⟩ := h
    cases v with
    | none => exact pe_xf T hno hz hf (hvar p)
    | some _ => cases hv0
  · rename_i z k p m q at_ r k2 p2
    simp only [Bool.and_eq_true, decide_eq_true_eq] at h
    obtain ⟨⟨hv0, rfl⟩, rfl⟩ := h
    cases v with
    | none => cases hv0
    | some y =>
      simp only [Bool.and_eq_true, decide_eq_true_eq] at hv0
      obtain ⟨⟨rfl, _⟩, _⟩ := hv0
      exact pe_tupZ (pa_cons pe_str (pa_cons (pe_xf T hno hz hf (hvar q)) pa_nil))
  · cases h
theorem ok_tra {X : Cx} {C : Ck} {S : Sx} {b : Ss} {k n i : Nat} {v : Option Str} {y nm x : Str} {w : Expr} {body : List Stmt} {p1 p2 p3 p4 pos : Pos} (c : Cn X C S) (hst : X.stack = X.env :: X.outer) (hf : X.env.frame = some X.env.locals) (hk : C.exn[k]? = some y) (hp : C.exp.contains k = true) (hg : Gl X y) (hd : (y == ("__debug__" : Str)) = false)
    (hN : X.N[n]? = some nm) (hln : X.env.scope.names.lookup nm = some .local) (h1 : (nm == ("__debug__" : Str)) = false) (h2 : (nm == ("__classdict__" : Str)) = false) (hx : chkSt C i x = true) (hw : plB v nm w = true) (hsw : swapsWith w (some (.Name x p2)) p3.line X.env = pure false)
    (hb : ∀ (W : WX) (pn : List (Addr × Obj)) (xe : Value → Shared → Prop), Takes (X.tr pn xe) W → PassesOwn (model X.prog X.w) X.A X.env xe → PSs (X.tr pn xe) body (rdSs { S with W := W } b)) :
    PS X (.Try body [.ExceptHandler (some (.Name y p1)) (some nm) [.Assign [.Name x p2] w p3] p4] [] [] pos) (rdS S (.tra b k n i v)) := by
  obtain ⟨A, fI, fd, g1, g2, g3, g4, _, _, _, _, _, g9⟩ := c.rap k y hk hp
  obtain ⟨A', q1, _, _, _, _, _, q7⟩ := c.rai k y hk
  rw [g1] at q1
  cases q1
  obtain ⟨hi, hl, hfn⟩ := loc_of c hx
  have hv : Vis X.env.scope nm := .inl hln
  refine (ps_try_as (i := n) (ts := fun a cls d D σ H => tPl v a cls d A n σ H fun u H1 => D.nx (σ.set i (some u)) H1) hst hf c.nd hN hln ⟨hg, hd, .inl g1⟩ c.tk hb fun a oe cls d pn hz hfl => pss_one (ps_set (X := X.suite a ((a, oe) :: pn)) (i := i) c.nd hi hl (pe_pl c g3 g4 hz hfl hN hv h1 h2 hw) hsw hfn)).imp fun D σ H h => ?_
  obtain ⟨Z, env, fp, rel, h⟩ := h
  unfold exS at h
  refine ⟨Z, env, fp, rel, ?_⟩
  show PoS { S with W := wAs X.K (.ref A) n _ S.W D } σ H Z env fp [] D (exSs S.M b env)
  cases q : exSs S.M b env with
  | nx e1 => rw [q] at h; exact h
  | bk e1 => rw [q] at h; exact h
  | ct e1 => rw [q] at h; exact h
  | rt s e1 => rw [q] at h; exact h
  | no => rw [q] at h; exact h
  | ex k' p e1 =>
    rw [q] at h
    dsimp only at h
    intro cls d σ' H' Z' fp' st pe rel' xr
    refine ⟨k' == k, q7 k' p cls d H' Z' xr, fun e a na => ?_, fun e => ?_⟩
    · rw [if_pos e] at h
      have ek : k' = k := by simpa using e
      subst ek
      obtain ⟨rfl, hpl⟩ := g9 p cls d H' Z' xr
      cases p with
      | none => exact h.elim
      | some dv =>
        obtain ⟨dd, u, rfl, hdd, zd, ru⟩ := hpl dv rfl
        dsimp only at h
        by_cases hni : (n == i) = true
        · rw [if_pos hni] at h; exact h.elim
        · rw [if_neg hni] at h
          have hni : n ≠ i := by simpa using hni
          cases hs : store S.M e1 n (.dat .none) with
          | none => rw [hs] at h; exact h.elim
          | some e0 =>
          rw [hs] at h
          dsimp only at h
          have hnl : n < e1.length ∧ S.M.pin.contains n = false := by
            unfold store at hs
            split at hs
            · cases hs
            · rename_i np
              split at hs
              · rename_i hlt; exact ⟨hlt, by simpa using np⟩
              · cases hs
          have hlen : n < σ'.length := by rw [← rel'.len]; exact hnl.1
          have fin : ∀ (u' : V) (H2 : Hp) (Z2 : Addr → Prop) (dx : Rf.D), Grow H' Z' H2 Z2 → Zok H2 Z2 → Rp S.K H2 Z2 u' dx → PoS S σ H Z env fp [] D (Fl.opt (store S.M e1 i (.dat dx)) fun e2 => .nx (e2.set n none)) → D.nx (((σ'.set n (some (.ref a))).set i (some u')).set n none) H2 := fun u' H2 Z2 dx gr zk rp h => by
            cases hs2 : store S.M e1 i (.dat dx) with
            | none => rw [hs2] at h; exact h.elim
            | some e2 =>
            rw [hs2] at h
            have rel2 := rel'.grow gr zk
            obtain ⟨r3, c3⟩ := store_ok' c.K rel2 hs2 (v := u') (f := []) ⟨rp, rfl⟩ (fun a ha => by simp at ha)
            have hnl2 : n < e2.length := by
              unfold store at hs2
              split at hs2
              · cases hs2
              · split at hs2
                · cases hs2; rw [List.length_set]; exact hnl.1
                · cases hs2
            have r4 := r3.drop (i := n) (x := none) hnl2
            have es : ((σ'.set n (some (V.ref a))).set i (some u')).set n none = (σ'.set i (some u')).set n none := by
              rw [List.set_comm _ _ hni, List.set_set]
            rw [es]
            refine h _ H2 Z2 _ ?_ ?_ r4
            · refine (st.owr.trans (gr.step (O := Owr fp' []))).weak (fun x o => o) fun x o => ?_
              obtain ⟨l, hl⟩ := o
              left
              change x ∈ (if l = n then [] else if l = i then [] else fp' l) at hl
              split at hl
              · simp at hl
              · split at hl
                · simp at hl
                · exact .inl ⟨l, hl⟩
            · refine PinEq.trans pe (PinEq.trans c3.pin fun j hj => ?_)
              rw [List.getElem?_set_ne]
              intro e
              rw [← e, hnl.2] at hj
              cases hj
          cases v with
          | none => exact ⟨.ref a, by rw [List.getElem?_set_self hlen], rfl, rfl, dd, _, u, rfl, hdd, rfl, fin u H' Z' dv .refl rel'.zs ru h⟩
          | some z =>
            have hzf : StrFit z := by
              unfold plB at hw
              split at hw
              · simp at hw
              · simp only [Bool.and_eq_true, decide_eq_true_eq] at hw
                obtain ⟨⟨⟨⟨rfl, k1⟩, k2⟩, _⟩, _⟩ := hw
                exact ⟨sizeOk_le k1, k2⟩
              · cases hw
            refine ⟨.ref a, by rw [List.getElem?_set_self hlen], rfl, rfl, dd, _, u, rfl, hdd, rfl, by show 2 ≤ sizeLine; decide, cleanB [.str z, dv], fun t o nt ho => ?_⟩
            have gr : Grow H' Z' (upd H' t (tpl (cleanB [.str z, dv]) o [.str z, u])) (zadd Z' t) := .newZ nt
            exact fin (.ref t) _ _ _ gr rel'.zs.newZ (.tup o (.inr rfl) ho upd_same (.cons (.str z hzf) (.cons (ru.grow gr) .nil))) h
    · have ek : ¬ (k' == k) = true := by rw [e]; exact Bool.false_ne_true
      rw [if_neg ek] at h
      exact h cls d σ' H' Z' fp' st pe rel' xr
end Rf
end

-- text RfN
section
set_option Elab.async false
set_option linter.all false
set_option maxRecDepth 100000
set_option maxHeartbeats 4000000
/-! RfN: the look at statements; all statements are sound; defs. -/
namespace Rf
open PySem PySem.Spec PyProof.Rows L2

def isComp : Expr → Bool
  | .ListComp _ _ _ _ => true
  | .SetComp _ _ _ _ => true
  | .DictComp _ _ _ _ _ => true
  | _ => false
def isCpr : E → Bool
  | .cpr _ _ _ _ _ => true
  | .cp2 _ _ _ _ _ _ _ _ _ => true
  | .dcp _ _ _ _ _ _ => true
  | _ => false
/-- whether a comprehension is stored by the name in its own frame -/
def swB (C : Ck) (y : Str) (py : Pos) : Expr → Bool
  | .DictComp _ _ _ scope pos => (match C.sc.names.lookup y with | some .local => true | _ => false) && py.line == pos.line && !(scope.names.any fun (n, k) => n == y && (k == .local || k == .cell))
  | .ListComp _ _ scope pos => (match C.sc.names.lookup y with | some .local => true | _ => false) && py.line == pos.line && !(scope.names.any fun (n, k) => n == y && (k == .local || k == .cell))
  | _ => false
mutual
def chkS (C : Ck) : S → Stmt → Bool
  | .pass, x => match x with
    | .Pass _ => true
    | _ => false
  | .doc _, x => match x with
    | .Expr (.Constant (.str _) _ _) _ => true
    | _ => false
  | .asg t e, x => match x with
    | .Assign [tg] v _ => (match t with
      | .nm i => (match tg with
        | .Name y py => chkSt C i y && chkE C e v && (isComp v == isCpr e)
        | _ => false)
      | .tp ts => chkTg C t tg && chkE C e v && !isTupE v)
    | _ => false
  | .set a i v, x => match x with
    | .Assign [.Subscript o k p] w _ => (match a with | .var _ => true | _ => false) && chkE C a o && chkE C i k && chkE C v w
    | _ => false
  | .sls a lo hi v, x => match x with
    | .Assign [.Subscript o (.Slice (some p) (some q) none _) _] w _ => (match a with | .var _ => true | _ => false) && chkE C a o && chkE C lo p && chkE C hi q && chkE C v w
    | _ => false
  | .aug i o e, x => match x with
    | .AugAssign (.Name y _) p v _ => chkSt C i y && opEq o p && (opEq o .Add || opEq o .Sub) && chkE C e v
    | _ => false
  | .par is es, x => match x with
    | .Assign [.Tuple ts _ _] (.Tuple vs _ _) _ => chkNms C is ts && chkEs C es vs && nodupN is && decide (is.length ≤ 100) && (parMode C.sc ts vs != 2)
    | _ => false
  | .exp e, x => match x with
    | .Expr v _ => chkE C e v && !isComp v
    | _ => false
  | .ret e, x => match x with
    | .Return (some v) _ => chkE C e v
    | _ => false
  | .retN, x => match x with
    | .Return none _ => true
    | _ => false
  | .ite c a b, x => match x with
    | .If t u v _ => chkT C c t && chkSs C a u && chkSs C b v
    | _ => false
  | .whl c b, x => match x with
    | .While t u [] _ => chkT C c t && chkSs C b u
    | _ => false
  | .for t it b, x => match x with
    | .For tg iter u [] _ => chkTg C t tg && chkI C (isTupE tg) it iter && chkSs C b u
    | _ => false
  | .brk, x => match x with
    | .Break _ => true
    | _ => false
  | .cnt, x => match x with
    | .Continue _ => true
    | _ => false
  | .rse _ _, x => true
  | .rai c, x => match x with
    | .Raise (some (.Call (.Name y _) [] [] _)) none _ => decide (C.exn[c]? = some y) && glB C.sc y && !C.exp.contains c
    | _ => false
  | .rap c e, x => match x with
    | .Raise (some (.Call (.Name y _) [z] [] _)) none _ => decide (C.exn[c]? = some y) && glB C.sc y && C.exp.contains c && chkE C e z
    | _ => false
  | .tra b c n i v, x => match x with
    | .Try body [.ExceptHandler (some (.Name y _)) (some nm) [.Assign [.Name u _] w _] _] [] [] _ => decide (C.exn[c]? = some y) && glB C.sc y && C.exp.contains c && chkN C n nm && locK C.sc nm && !(nm == ("__debug__" : Str)) && !(nm == ("__classdict__" : Str)) && chkSt C i u && plB v nm w && chkSs C b body
    | _ => false
  | .tri b hs, x => match x with
    | .Try body handlers [] [] _ => chkSs C b body && chkHs C hs handlers && !hs.isEmpty
    | _ => false
  | .as2 i j e, x => match x with
    | .Assign [.Name y _, .Name z _] (.Constant v k p) _ => chkSt C i y && chkSt C j z && chkE C e (.Constant v k p)
    | _ => false
def chkSs (C : Ck) : Ss → List Stmt → Bool
  | .nil, x => match x with
    | [] => true
    | _ => false
  | .cons s r, x => match x with
    | y :: ys => chkS C s y && chkSs C r ys
    | _ => false
end

/-- where a statement stands -/
structure Cs (X : Cx) (C : Ck) (S : Sx) : Prop extends Cn X C S where
  stk : X.stack = X.env :: X.outer
  frm : X.env.frame = some X.env.locals
  po : PassesOwn (model X.prog X.w) X.A X.env X.xe
  kd : X.env.scope.kind = .function

theorem swaps_no {v : Expr} {t : Option Expr} {l : Nat} {env : Env} (h : isComp v = false) : swapsWith v t l env = pure false := by
  cases v <;> first | rfl | (simp [isComp] at h)
theorem swaps_name {C : Ck} {X : Cx} (hsc : X.env.scope = C.sc) (hk : X.env.scope.kind = .function) {elt : Expr} {gs : List Comprehension} {scope : Scope} {pos py : Pos} {y : Str} {l : Nat} (h : swB C y py (.ListComp elt gs scope pos) = false) :
    swapsWith (.ListComp elt gs scope pos) (some (.Name y py)) l X.env = pure false := by
  have hb : X.env.blockKind = .function := by unfold Env.blockKind; rw [hk]; rfl
  have ky : X.env.kindOf y = C.sc.names.lookup y := by rw [← hsc]; rfl
  unfold swapsWith
  unfold swB at h
  simp only [hb, ky, Expr.pos]
  show pure _ = pure false
  congr 1
  cases hq : C.sc.names.lookup y with
  | none => rfl
  | some k =>
    rw [hq] at h
    cases k <;> first | rfl | skip
    simp only [Bool.true_and] at h
    simpa [Bool.and_assoc] using h

theorem swaps_nameD {C : Ck} {X : Cx} (hsc : X.env.scope = C.sc) (hk : X.env.scope.kind = .function) {kx vx : Expr} {gs : List Comprehension} {scope : Scope} {pos py : Pos} {y : Str} {l : Nat} (h : swB C y py (.DictComp kx vx gs scope pos) = false) :
    swapsWith (.DictComp kx vx gs scope pos) (some (.Name y py)) l X.env = pure false := by
  have hb : X.env.blockKind = .function := by unfold Env.blockKind; rw [hk]; rfl
  have ky : X.env.kindOf y = C.sc.names.lookup y := by rw [← hsc]; rfl
  unfold swapsWith
  unfold swB at h
  simp only [hb, ky, Expr.pos]
  show pure _ = pure false
  congr 1
  cases hq : C.sc.names.lookup y with
  | none => rfl
  | some k =>
    rw [hq] at h
    cases k <;> first | rfl | skip
    simp only [Bool.true_and] at h
    simpa [Bool.and_assoc] using h

theorem rdS_pass {S' : Sx} : ∀ D σ H, rdS S' .pass D σ H → tNext D σ H := fun D σ H h => by
  obtain ⟨Z, env, fp, rel, h⟩ := h
  unfold exS at h
  exact h σ H Z fp (Step.refl.weak (fun _ h => h) fun x o => .inl (.inl o)) .refl rel
theorem rdS_brk {S' : Sx} : ∀ D σ H, rdS S' .brk D σ H → tBreak D σ H := fun D σ H h => by
  obtain ⟨Z, env, fp, rel, h⟩ := h
  unfold exS at h
  exact h σ H Z fp (Step.refl.weak (fun _ h => h) fun x o => .inl (.inl o)) .refl rel
theorem rdS_cnt {S' : Sx} : ∀ D σ H, rdS S' .cnt D σ H → tCont D σ H := fun D σ H h => by
  obtain ⟨Z, env, fp, rel, h⟩ := h
  unfold exS at h
  exact h σ H Z fp (Step.refl.weak (fun _ h => h) fun x o => .inl (.inl o)) .refl rel
theorem rdS_doc {S' : Sx} {z : Str} : ∀ D σ H, rdS S' (.doc z) D σ H → tNext D σ H := fun D σ H h => by
  obtain ⟨Z, env, fp, rel, h⟩ := h
  unfold exS at h
  exact h σ H Z fp (Step.refl.weak (fun _ h => h) fun x o => .inl (.inl o)) .refl rel
theorem rdS_retN {S' : Sx} : ∀ D σ H, rdS S' .retN D σ H → tRetN D σ H := fun D σ H h => by
  obtain ⟨Z, env, fp, rel, h⟩ := h
  unfold exS at h
  exact h .non σ H Z fp [] (Step.refl.weak (fun _ h => h) fun x o => .inl o) .refl rel ⟨.non, rfl⟩ (by simp)
theorem rdS_rse {S' : Sx} {k : Nat} {es : Es} : ∀ D σ H, rdS S' (.rse k es) D σ H → tNever D σ H := fun D σ H h => by
  obtain ⟨Z, env, fp, rel, h⟩ := h
  unfold exS at h
  exact h
theorem rdSs_nil {S' : Sx} : ∀ D σ H, rdSs S' .nil D σ H → tNext D σ H := fun D σ H h => by
  obtain ⟨Z, env, fp, rel, h⟩ := h
  unfold exSs at h
  exact h σ H Z fp (Step.refl.weak (fun _ h => h) fun x o => .inl (.inl o)) .refl rel
theorem sub_assign {o k : Expr} {p : Pos} {env : Env} {v : Value} (hs : isSlice k = false) : assign (.Subscript o k p) env v = (do
    let ov ← holding [v] (eval o env)
    let iv ← holding [v, ov] (eval k env)
    standAt p
    holding [v, ov, iv] (setItem ov iv v)
    release [v, ov, iv] []) := by
  cases k <;> first | rfl | (simp [isSlice] at hs)
mutual
theorem okS : ∀ (s : S) {X : Cx} {C : Ck} {Sx' : Sx} {x : Stmt}, Cs X C Sx' → chkS C s x = true → PS X x (rdS Sx' s)
  | .pass, X, C, S', x, c, h => by
    cases x with
    | Pass pos => exact ps_pass.imp rdS_pass
    | _ => simp [chkS] at h
  | .doc _, X, C, S', x, c, h => by
    cases x with
    | Expr v pos =>
      cases v with
      | Constant w k p =>
        cases w with
        | str z => exact ps_doc.imp rdS_doc
        | _ => simp [chkS] at h
      | _ => simp [chkS] at h
    | _ => simp [chkS] at h
  | .asg (.nm i) e, X, C, S', x, c, h => by
    cases x with
    | Assign ts v pos =>
      rcases ts with _ | ⟨tg, _ | ⟨t2, ts⟩⟩ <;> (try (simp [chkS] at h; done))
      cases tg with
      | Name y py =>
        simp only [chkS, chkSt, chkN, Bool.and_eq_true, Bool.or_eq_true, decide_eq_true_eq] at h
        obtain ⟨⟨⟨⟨h1, h2⟩, h3⟩, h4⟩, h5⟩ := h
        have hi : X.N[i]? = some y := by rw [c.N]; exact h1
        have hx : Loc X.env.scope y := by
          unfold locB at h2
          rw [c.sc]
          split at h2 <;> first | exact .inl (by assumption) | exact .inr (by assumption) | cases h2
        have hf : X.fn y = true ∨ X.env.scope.names.lookup y = some .local := by
          rcases h3 with h3 | h3
          · exact .inl (c.fn y h3)
          · rw [c.sc]
            split at h3 <;> first | exact .inr (by assumption) | cases h3
        by_cases hv : isComp v = true
        · have he : isCpr e = true := by rw [hv] at h5; simpa using h5
          cases e with
          | cpr e' t it k own =>
            cases v with
            | ListComp elt gs scope vpos =>
              cases hsw : swB C y py (.ListComp elt gs scope vpos) with
              | false => exact (ps_set (i := i) c.nd hi hx (okE _ c.toCn h4) (swaps_name c.sc c.kd hsw) hf).imp fun D σ H h => asg_name_core c.K h
              | true =>
                rcases gs with _ | ⟨⟨tg, iter, ifs, as_⟩, _ | ⟨g2, gs⟩⟩ <;> (try (simp [chkE] at h4; done))
                simp only [chkE, Bool.and_eq_true, decide_eq_true_eq] at h4
                obtain ⟨⟨⟨⟨⟨⟨rfl, k1⟩, k2⟩, k3⟩, k4⟩, k5⟩, k6⟩ := h4
                have ho : ∀ i ∈ tgs t, i ∈ own := fun i hi => by
                  have := List.all_eq_true.mp k1 i hi
                  simpa using this
                have ok : BlkOk X.N X.env.scope scope (ownN C own) := by rw [c.N, c.sc]; exact blkOk_by k3
                unfold swB at hsw
                simp only [Bool.and_eq_true, Bool.not_eq_true'] at hsw
                have hyl : X.env.scope.names.lookup y = some .local := by
                  rw [c.sc]
                  have := hsw.1.1
                  split at this
                  · assumption
                  · cases this
                have cb := fun s H A cl fp => c.toCn.blk s H scope A cl fp
                have q := ps_setLc (X := X) (i := i) (y := y) (own := ownN C own) (pos := vpos) (spos := pos) c.calm c.nd hi hyl (sw_true c.kd hyl hsw.1.2 hsw.2) (okI it (tg := tg) c.toCn k2) ok
                  (fun s H A cl fp => ok_tg (S := S'.blk) (cb s H A cl fp).K (cb s H A cl fp).N (cb s H A cl fp).nd (cb s H A cl fp).sc (cb s H A cl fp).fn (cb s H A cl fp).calm k4)
                  (fun s H A cl fp => okOt k (cb s H A cl fp) k5) (fun s H A cl fp => okE e' (cb s H A cl fp) k6) (folded_plain (chkI_noset k2) _)
                rw [ownN_snd] at q
                exact q.imp fun D σ H h => ok_cpr_core c.K (S' := S'.blk) rfl rfl ho (asg_name_core c.K h)
            | _ => first | (simp [isComp] at hv; done) | (simp [chkE] at h4; done)
          | cp2 e' t it k t1 it1 k1 own own1 =>
            cases v with
            | ListComp elt gs scope vpos =>
              cases hsw : swB C y py (.ListComp elt gs scope vpos) with
              | false => exact (ps_set (i := i) c.nd hi hx (okE _ c.toCn h4) (swaps_name c.sc c.kd hsw) hf).imp fun D σ H h => asg_name_core c.K h
              | true =>
                rcases gs with _ | ⟨⟨tg, iter, ifs, as_⟩, _ | ⟨⟨tg1, iter1, ifs1, as1⟩, _ | ⟨g3, gs⟩⟩⟩ <;> (try (simp [chkE] at h4; done))
                simp only [chkE, Bool.and_eq_true, decide_eq_true_eq] at h4
                obtain ⟨⟨⟨⟨⟨⟨⟨⟨⟨⟨⟨⟨rfl, rfl⟩, l1⟩, l1b⟩, l1c⟩, l2⟩, l3⟩, l4⟩, l5⟩, l6⟩, l7⟩, l8⟩, l9⟩ := h4
                have ho : ∀ i ∈ tgs t, i ∈ own := fun i hi => by
                  have := List.all_eq_true.mp l1 i hi
                  simpa using this
                have ho1 : ∀ i ∈ tgs t1, i ∈ own1 := fun i hi => by
                  have := List.all_eq_true.mp l1b i hi
                  simpa using this
                have hin : ∀ i ∈ own1, i ∈ own := fun i hi => by
                  have := List.all_eq_true.mp l1c i hi
                  simpa using this
                have ok : BlkOk X.N X.env.scope scope (ownN C own) := by rw [c.N, c.sc]; exact blkOk_by l3
                unfold swB at hsw
                simp only [Bool.and_eq_true, Bool.not_eq_true'] at hsw
                have hyl : X.env.scope.names.lookup y = some .local := by
                  rw [c.sc]
                  have := hsw.1.1
                  split at this
                  · assumption
                  · cases this
                have cb := fun s H A cl fp => c.toCn.blk s H scope A cl fp
                have q := ps_setLc2 (X := X) (i := i) (y := y) (own := ownN C own) (vs1 := own1) (pos := vpos) (spos := pos) c.calm c.nd hi hyl (sw_true c.kd hyl hsw.1.2 hsw.2) (okI it (tg := tg) c.toCn l2) ok (by rw [ownN_snd]; exact hin)
                  (fun s H A cl fp => ok_tg (S := S'.blk) (cb s H A cl fp).K (cb s H A cl fp).N (cb s H A cl fp).nd (cb s H A cl fp).sc (cb s H A cl fp).fn (cb s H A cl fp).calm l4)
                  (fun s H A cl fp => okOt k (cb s H A cl fp) l5) (fun s H A cl fp => okI it1 (tg := tg1) (cb s H A cl fp) l6)
                  (fun s H A cl fp => ok_tg (S := S'.blk) (cb s H A cl fp).K (cb s H A cl fp).N (cb s H A cl fp).nd (cb s H A cl fp).sc (cb s H A cl fp).fn (cb s H A cl fp).calm l7)
                  (fun s H A cl fp => okOt k1 (cb s H A cl fp) l8) (fun s H A cl fp => okE e' (cb s H A cl fp) l9) (folded_plain (chkI_noset l2) _) (fun env => folded_plain (chkI_noset l6) env)
                rw [ownN_snd] at q
                exact q.imp fun D σ H h => ok_cp2_core c.K (S' := S'.blk) rfl rfl ho ho1 hin (asg_name_core c.K h)
            | _ => first | (simp [isComp] at hv; done) | (simp [chkE] at h4; done)
          | dcp e' ev t it k own =>
            cases v with
            | DictComp kx vx gs scope vpos =>
              cases hsw : swB C y py (.DictComp kx vx gs scope vpos) with
              | false => exact (ps_set (i := i) c.nd hi hx (okE _ c.toCn h4) (swaps_nameD c.sc c.kd hsw) hf).imp fun D σ H h => asg_name_core c.K h
              | true =>
                rcases gs with _ | ⟨⟨tg, iter, ifs, as_⟩, _ | ⟨g2, gs⟩⟩ <;> (try (simp [chkE] at h4; done))
                simp only [chkE, Bool.and_eq_true, decide_eq_true_eq] at h4
                obtain ⟨⟨⟨⟨⟨⟨⟨rfl, k1⟩, k2⟩, k3⟩, k4⟩, k5⟩, k6⟩, k7⟩ := h4
                have ho : ∀ i ∈ tgs t, i ∈ own := fun i hi => by
                  have := List.all_eq_true.mp k1 i hi
                  simpa using this
                have ok : BlkOk X.N X.env.scope scope (ownN C own) := by rw [c.N, c.sc]; exact blkOk_by k3
                unfold swB at hsw
                simp only [Bool.and_eq_true, Bool.not_eq_true'] at hsw
                have hyl : X.env.scope.names.lookup y = some .local := by
                  rw [c.sc]
                  have := hsw.1.1
                  split at this
                  · assumption
                  · cases this
                have cb := fun s H A cl fp => c.toCn.blk s H scope A cl fp
                have q := ps_setDc (X := X) (i := i) (y := y) (own := ownN C own) (pos := vpos) (spos := pos) c.calm c.nd hi hyl (sw_trueD c.kd hyl hsw.1.2 hsw.2) (okI it (tg := tg) c.toCn k2) ok
                  (fun s H A cl fp => ok_tg (S := S'.blk) (cb s H A cl fp).K (cb s H A cl fp).N (cb s H A cl fp).nd (cb s H A cl fp).sc (cb s H A cl fp).fn (cb s H A cl fp).calm k4)
                  (fun s H A cl fp => okOt k (cb s H A cl fp) k5) (fun s H A cl fp => okE e' (cb s H A cl fp) k6) (fun s H A cl fp => okE ev (cb s H A cl fp) k7) (folded_plain (chkI_noset k2) _)
                rw [ownN_snd] at q
                exact q.imp fun D σ H h => ok_dcp_core c.K (S' := S'.blk) rfl rfl ho (asg_name_core c.K h)
            | _ => first | (simp [isComp] at hv; done) | (simp [chkE] at h4; done)
          | _ => simp [isCpr] at he
        · exact (ps_set (i := i) c.nd hi hx (okE e c.toCn h4) (swaps_no (by simpa using hv)) hf).imp fun D σ H h => asg_name_core c.K h
      | _ => simp [chkS] at h
    | _ => simp [chkS] at h
  | .asg (.tp ts) e, X, C, S', x, c, h => by
    cases x with
    | Assign tgl v pos =>
      rcases tgl with _ | ⟨tg, _ | ⟨t2, tgl⟩⟩ <;> (try (simp [chkS] at h; done))
      simp only [chkS, Bool.and_eq_true, Bool.not_eq_true'] at h
      have hg := ok_tg (S := S') c.K c.N c.nd c.sc c.fn c.calm h.1.1
      have ht : isTupE tg = true := by
        cases tg <;> first | rfl | (simp [chkTg] at h)
      cases tg with
      | Tuple es k tp =>
        refine (ps_asg (okE e c.toCn h.1.2) hg ?_ ?_ ?_).imp fun D σ H h => asg_tup_core c.K h
        · unfold swapsWithSole swapsWith
          cases v <;> rfl
        · unfold swappedStores
          cases v <;> first | rfl | (simp [isTupE] at h)
        · rfl
      | _ => simp [isTupE] at ht
    | _ => simp [chkS] at h
  | .set a i v, X, C, S', x, c, h => by
    cases x with
    | Assign tgl w pos =>
      rcases tgl with _ | ⟨tg, _ | ⟨t2, tgl⟩⟩ <;> (try (simp [chkS] at h; done))
      cases tg with
      | Subscript o k p =>
        simp only [chkS, Bool.and_eq_true] at h
        have ho := okE a c.toCn h.1.1.2
        have hi := okE i c.toCn h.1.2
        refine (ps_asg (okE v c.toCn h.2) (pg_sub ho hi (set_any (by have := c.un; omega)) (fun v => sub_assign (chkE_noslice h.1.2))) ?_ ?_ ?_).imp fun D σ H h => set_core c.K h
        · unfold swapsWithSole swapsWith
          cases w <;> rfl
        · rfl
        · rfl
      | _ => simp [chkS] at h
    | _ => simp [chkS] at h
  | .sls a lo hi v, X, C, S', x, c, h => by
    cases x with
    | Assign tgl w pos =>
      rcases tgl with _ | ⟨tg, _ | ⟨t2, tgl⟩⟩ <;> (try (simp [chkS] at h; done))
      cases tg with
      | Subscript o k p =>
        cases k with
        | Slice l u st sp =>
          rcases l with _ | l <;> (try (simp [chkS] at h; done))
          rcases u with _ | u <;> (try (simp [chkS] at h; done))
          rcases st with _ | st <;> (try (simp [chkS] at h; done))
          simp only [chkS, Bool.and_eq_true] at h
          obtain ⟨⟨⟨⟨h0, h1⟩, h2⟩, h3⟩, h4⟩ := h
          refine (ps_asg (okE v c.toCn h4) (pg_sls (okE a c.toCn h1) (okE lo c.toCn h2) (okE hi c.toCn h3)) ?_ ?_ ?_).imp fun D σ H h => sls_core c.K h
          · unfold swapsWithSole swapsWith
            cases w <;> rfl
          · rfl
          · rfl
        | _ => simp [chkS] at h
      | _ => simp [chkS] at h
    | _ => simp [chkS] at h
  | .aug i o e, X, C, S', x, c, h => by
    cases x with
    | AugAssign tg p v pos =>
      cases tg with
      | Name y py =>
        simp only [chkS, chkSt, chkN, Bool.and_eq_true, Bool.or_eq_true, decide_eq_true_eq] at h
        obtain ⟨⟨⟨⟨⟨h1, h2⟩, h3⟩, h4⟩, h5⟩, h6⟩ := h
        have hi : X.N[i]? = some y := by rw [c.N]; exact h1
        have hx : Loc X.env.scope y := by
          unfold locB at h2
          rw [c.sc]
          split at h2 <;> first | exact .inl (by assumption) | exact .inr (by assumption) | cases h2
        have hf : X.fn y = true ∨ X.env.scope.names.lookup y = some .local := by
          rcases h3 with h3 | h3
          · exact .inl (c.fn y h3)
          · rw [c.sc]
            split at h3 <;> first | exact .inr (by assumption) | cases h3
        have e1 := opEq_eq h4
        subst e1
        rcases h5 with h5 | h5
        · have e2 := opEq_eq h5
          subst e2
          exact (ps_aug (i := i) c.nd hi hx (okE e c.toCn h6) ip_add hf).imp fun D σ H h => aug_core c.K (.inl rfl) h
        · have e2 := opEq_eq h5
          subst e2
          exact (ps_aug (i := i) c.nd hi hx (okE e c.toCn h6) ip_sub hf).imp fun D σ H h => aug_core c.K (.inr rfl) h
      | _ => simp [chkS] at h
    | _ => simp [chkS] at h
  | .par is es, X, C, S', x, c, h => by
    cases x with
    | Assign tgl v pos =>
      rcases tgl with _ | ⟨tg, _ | ⟨t2, tgl⟩⟩ <;> (try (simp [chkS] at h; done))
      cases tg with
      | Tuple ts k p =>
        cases v with
        | Tuple vs k2 p2 =>
          simp only [chkS, Bool.and_eq_true, decide_eq_true_eq] at h
          exact ps_parAny c.K c.N c.nd c.sc c.fn c.calm c.kd h.1.1.1.1 (okA es c.toCn h.1.1.1.2) h.1.1.2 h.2 h.1.2
        | _ => simp [chkS] at h
      | _ => simp [chkS] at h
    | _ => simp [chkS] at h
  | .exp e, X, C, S', x, c, h => by
    cases x with
    | Expr v pos =>
      simp only [chkS, Bool.and_eq_true, Bool.not_eq_true'] at h
      exact (ps_expr (okE e c.toCn h.1) (swaps_no h.2)).imp fun D σ H h => exp_core c.K h
    | _ => simp [chkS] at h
  | .ret e, X, C, S', x, c, h => by
    cases x with
    | Return v pos =>
      cases v with
      | some v => exact (ps_ret (okE e c.toCn (by simpa [chkS] using h))).imp fun D σ H h => ret_core c.K h
      | none => simp [chkS] at h
    | _ => simp [chkS] at h
  | .retN, X, C, S', x, c, h => by
    cases x with
    | Return v pos =>
      cases v with
      | none => exact ps_retN.imp rdS_retN
      | some _ => simp [chkS] at h
    | _ => simp [chkS] at h
  | .ite t a b, X, C, S', x, c, h => by
    cases x with
    | If u v w pos =>
      simp only [chkS, Bool.and_eq_true] at h
      exact (ps_if (okT t c.toCn h.1.1) (okSs a c h.1.2) (okSs b c h.2)).imp fun D σ H h => ite_core c.K h
    | _ => simp [chkS] at h
  | .whl t b, X, C, S', x, c, h => by
    cases x with
    | While u v w pos =>
      cases w with
      | nil =>
        simp only [chkS, Bool.and_eq_true] at h
        exact (ps_while c.po (okT t c.toCn h.1) (okSs b c h.2)).imp fun D σ H h => whl_core c.K h
      | cons _ _ => simp [chkS] at h
    | _ => simp [chkS] at h
  | .for t it b, X, C, S', x, c, h => by
    cases x with
    | For tg iter u w pos =>
      cases w with
      | nil =>
        simp only [chkS, Bool.and_eq_true] at h
        exact (ps_for c.po c.calm (okI it c.toCn h.1.2) (ok_tg (S := S') c.K c.N c.nd c.sc c.fn c.calm h.1.1) (okSs b c h.2) (folded_plain (chkI_noset h.1.2) _)).imp fun D σ H h => for_core c.K h
      | cons _ _ => simp [chkS] at h
    | _ => simp [chkS] at h
  | .brk, X, C, S', x, c, h => by
    cases x with
    | Break pos => exact ps_break.imp rdS_brk
    | _ => simp [chkS] at h
  | .cnt, X, C, S', x, c, h => by
    cases x with
    | Continue pos => exact ps_continue.imp rdS_cnt
    | _ => simp [chkS] at h
  | .rse _ _, X, C, S', x, c, h => ps_never.imp rdS_rse
  | .rai k, X, C, S', x, c, h => by
    unfold chkS at h
    split at h
    · rename_i y p1 p2 p3
      simp only [Bool.and_eq_true, decide_eq_true_eq, Bool.not_eq_true'] at h
      obtain ⟨hg, hd⟩ := c.gl h.1.2
      exact ok_rai c.toCn h.1.1 h.2 hg hd
    · cases h
  | .rap k e, X, C, S', x, c, h => by
    unfold chkS at h
    split at h
    · rename_i y p1 z p2 p3
      simp only [Bool.and_eq_true, decide_eq_true_eq] at h
      obtain ⟨hg, hd⟩ := c.gl h.1.1.2
      exact ok_rap c.toCn h.1.1.1 h.1.2 hg hd (okE e c.toCn h.2) (chkE_nostar h.2)
    · cases h
  | .tra b k n i v, X, C, S', x, c, h => by
    unfold chkS at h
    split at h
    · rename_i body y p1 nm u p2 w p3 p4 pos
      simp only [Bool.and_eq_true, decide_eq_true_eq, Bool.not_eq_true'] at h
      obtain ⟨⟨⟨⟨⟨⟨⟨⟨⟨h1, h2⟩, h3⟩, h4⟩, h5⟩, h6⟩, h7⟩, h8⟩, h9⟩, h10⟩ := h
      obtain ⟨hg, hd⟩ := c.gl h2
      have hN : X.N[n]? = some nm := by rw [c.N]; exact of_decide_eq_true h4
      have hln : X.env.scope.names.lookup nm = some .local := by rw [c.sc]; exact locK_eq h5
      have hw : isComp w = false := by
        unfold plB at h9
        split at h9 <;> first | rfl | cases h9
      exact ok_tra c.toCn c.stk c.frm h1 h3 hg hd hN hln h6 h7 h8 h9 (swaps_no hw) fun W pn xe tk po => okSs b (Sx' := { S' with W := W }) ⟨c.toCn.tr tk, c.stk, c.frm, po, c.kd⟩ h10
    · cases h
  | .tri b hs, X, C, S', x, c, h => by
    unfold chkS at h
    split at h
    · rename_i body handlers pos
      simp only [Bool.and_eq_true, Bool.not_eq_true'] at h
      refine ok_tri c.toCn c.stk c.frm h.1.2 h.2 fun W pn xe tk po => okSs b (Sx' := { S' with W := W }) ⟨c.toCn.tr tk, c.stk, c.frm, po, c.kd⟩ h.1.1
    · cases h
  | .as2 i j e, X, C, S', x, c, h => by
    unfold chkS at h
    split at h
    · rename_i y p1 z p2 v k p pos
      simp only [Bool.and_eq_true] at h
      exact ok_as2 c.toCn h.1.1 h.1.2 (okE e c.toCn h.2)
    · cases h
theorem okSs : ∀ (s : Ss) {X : Cx} {C : Ck} {Sx' : Sx} {xs : List Stmt}, Cs X C Sx' → chkSs C s xs = true → PSs X xs (rdSs Sx' s)
  | .nil, X, C, S', [], c, _ => pss_nil.imp rdSs_nil
  | .nil, X, C, S', _ :: _, c, h => by simp [chkSs] at h
  | .cons _ _, X, C, S', [], c, h => by simp [chkSs] at h
  | .cons s r, X, C, S', y :: ys, c, h => by
    simp only [chkSs, Bool.and_eq_true] at h
    refine (pss_cons (okS s c h.1) (okSs r c h.2)).imp fun D σ H h => ?_
    obtain ⟨Z, env, fp, rel, h⟩ := h
    unfold exSs at h
    refine ⟨Z, env, fp, rel, ?_⟩
    cases q : exS S'.M s env with
    | nx e1 =>
      rw [q] at h
      exact fun σ' H' Z' fp' st pe rel' => ⟨Z', e1, fp', rel', PoS.adv h st.owr pe⟩
    | bk e1 => rw [q] at h; exact h
    | ct e1 => rw [q] at h; exact h
    | rt s' e1 => rw [q] at h; exact h
    | ex c' p e1 => rw [q] at h; exact h
    | no => rw [q] at h; exact h
end

/-! ### defs -/
theorem slot_app_none {ss : List Sv} {n j : Nat} : slot (ss.map some ++ List.replicate n none) j = ss[j]? := by
  rw [slot_eq]
  by_cases h : j < ss.length
  · rw [List.getElem?_append_left (by simpa using h), List.getElem?_map, List.getElem?_eq_getElem h]
    rfl
  · rw [List.getElem?_append_right (by simpa using h), List.getElem?_eq_none (by omega : ss.length ≤ j)]
    rw [List.getElem?_replicate]
    split
    · rename_i h2
      split at h2
      · cases h2
      · cases h2
    · rfl
theorem pinsOf_mem : ∀ {ss : List Sv} {i j : Nat}, j ∈ pinsOf i ss ↔ ∃ k s, j = i + k ∧ ss[k]? = some s ∧ isOwn s = true
  | [], i, j => by simp [pinsOf]
  | s :: ss, i, j => by
    have ih := @pinsOf_mem ss (i + 1) j
    unfold pinsOf
    constructor
    · intro h
      split at h
      · rename_i ho
        rcases List.mem_cons.mp h with rfl | h
        · exact ⟨0, s, rfl, rfl, ho⟩
        · obtain ⟨k, s', e, h1, h2⟩ := ih.mp h
          exact ⟨k + 1, s', by omega, by simpa using h1, h2⟩
      · obtain ⟨k, s', e, h1, h2⟩ := ih.mp h
        exact ⟨k + 1, s', by omega, by simpa using h1, h2⟩
    · rintro ⟨k, s', e, h1, h2⟩
      cases k with
      | zero =>
        simp at h1 e
        subst h1 e
        rw [if_pos h2]
        exact List.mem_cons_self
      | succ k =>
        have := ih.mpr ⟨k, s', by omega, by simpa using h1, h2⟩
        split
        · exact List.mem_cons_of_mem _ this
        · exact this
theorem outsO_get {env : En} : ∀ {ss os : List Sv} {i : Nat}, outsO env i ss = some os → ∀ (j : Nat) (s : Sv), ss[j]? = some s → isOwn s = true → ∃ o, os[j]? = some o ∧ slot env (i + j) = some o
  | [], os, i, h, j, s, e, _ => by simp at e
  | s0 :: ss, os, i, h, j, s, e, ho => by
    unfold outsO at h
    cases j with
    | zero =>
      simp at e
      subst e
      rw [if_pos ho] at h
      obtain ⟨o, h1, h2⟩ := Option.bind_eq_some_iff.mp h
      obtain ⟨os', _, rfl⟩ := Option.map_eq_some_iff.mp h2
      exact ⟨o, rfl, h1⟩
    | succ j =>
      have e : ss[j]? = some s := by simpa using e
      split at h
      · obtain ⟨o, h1, h2⟩ := Option.bind_eq_some_iff.mp h
        obtain ⟨os', h3, rfl⟩ := Option.map_eq_some_iff.mp h2
        obtain ⟨o', g1, g2⟩ := outsO_get h3 j s e ho
        exact ⟨o', by simpa using g1, by rw [← g2]; congr 1; omega⟩
      · obtain ⟨os', h3, rfl⟩ := Option.map_eq_some_iff.mp h
        obtain ⟨o', g1, g2⟩ := outsO_get h3 j s e ho
        exact ⟨o', by simpa using g1, by rw [← g2]; congr 1; omega⟩
/-- the machine of a def's body -/
def machOf (G : Pg) (k : Nat) (ss : List Sv) : Mach := { call := callF G k, pin := pinsOf 0 ss, gl := G.gl, fuel := G.fuel }
open Classical in
def fpOut (ss : List Sv) (fp : Nat → List Addr) : Nat → List Addr := fun j => if (∃ s, ss[j]? = some s ∧ isOwn s = true) then fp j else []
theorem fpOut_ow {ss : List Sv} {fp : Nat → List Addr} {a : Addr} (h : Ow (fpOut ss fp) a) : Ow fp a := by
  obtain ⟨j, hj⟩ := h
  unfold fpOut at hj
  split at hj
  · exact ⟨j, hj⟩
  · simp at hj
theorem out_rel {K : PySem.W.Frag} {H' : Hp} {Z' : Addr → Prop} {ss os : List Sv} {vs : List V} {env' : En} {σ' σ0 : L2.St} {fp' : Nat → List Addr} {M : Mach} (hp : M.pin = pinsOf 0 ss) (hl : ss.length = vs.length) (hσ : ∀ j : Nat, j < vs.length → σ0[j]? = (vs[j]?).map some)
    (hs : outsO env' 0 ss = some os) (rel : Rel K H' Z' env' σ' fp') (pe : PinEq M σ0 σ') : OutR K H' Z' ss os vs (fpOut ss fp') := by
  refine ⟨fun j s e ho => ?_, fun j h => ?_, fun i j a h1 h2 => ?_⟩
  · obtain ⟨o, g1, g2⟩ := outsO_get hs j s e ho
    rw [Nat.zero_add] at g2
    obtain ⟨v, h1, h2⟩ := rel.at_ j o g2
    have hj : j < vs.length := by rw [← hl]; exact (List.getElem?_eq_some_iff.mp e).1
    have hpin : M.pin.contains j = true := by
      rw [hp]
      have : j ∈ pinsOf 0 ss := pinsOf_mem.mpr ⟨j, s, by omega, e, ho⟩
      simpa using this
    have q := pe j hpin
    rw [hσ j hj, h1] at q
    refine ⟨o, v, g1, ?_, ?_⟩
    · cases hv : vs[j]? with
      | none => rw [hv] at q; cases q
      | some u => rw [hv] at q; simp at q; rw [q]
    · unfold fpOut
      rw [if_pos ⟨s, e, ho⟩]
      exact h2
  · unfold fpOut
    rw [if_neg]
    rintro ⟨s, e, ho⟩
    rw [h s e] at ho
    cases ho
  · unfold fpOut at h1 h2
    split at h1
    · split at h2
      · exact rel.dj i j a h1 h2
      · simp at h2
    · simp at h1
theorem rel_start {K : PySem.W.Frag} {H : Hp} {Z : Addr → Prop} {ss : List Sv} {vs : List V} {fps : Nat → List Addr} {N : List Str} (rel : Rel K H Z (ss.map some) (vs.map some) fps) (hn : vs.length ≤ N.length) : Rel K H Z (ss.map some ++ List.replicate (N.length - vs.length) none) (L2.start N vs) fps := by
  refine ⟨fun j s e => ?_, fun j e => ?_, rel.dj, ?_, rel.zs⟩
  · rw [slot_app_none, ← slot_map] at e
    obtain ⟨v, h1, h2⟩ := rel.at_ j s e
    refine ⟨v, ?_, h2⟩
    unfold L2.start
    have : j < (vs.map some).length := (List.getElem?_eq_some_iff.mp h1).1
    rw [List.getElem?_append_left this]
    exact h1
  · rw [slot_app_none, ← slot_map] at e
    exact rel.no_ j e
  · have := rel.len
    unfold L2.start
    simp only [List.length_append, List.length_replicate] at this ⊢
    omega

/-- a def of the text -/
structure FnI where
  nm : Str
  qual : Str
  st : Stmt
  N : List Str
  ps : List Str
  body : Ss
def FnI.fn (i : FnI) : Fn := ⟨i.ps.length, i.N.length, i.body⟩
def FnI.ck (gls exn : List Str) (exp : List Nat) (tab : List FnI) (i : FnI) : Ck := { N := i.N, sc := defScope i.st, fn := fun _ => true, fns := tab.map (·.nm), gls := gls, exn := exn, exp := exp }
/-- what the look at the text must find -/
def FnI.look (gls exn : List Str) (exp : List Nat) (tab : List FnI) (i : FnI) : Bool := chkSs (i.ck gls exn exp tab) i.body (defBody i.st)
/-- what stands behind the top -/
structure TabOk (P : Program) (w : World) (K : PySem.W.Frag) (mg : Str → Option Value) (gls exn : List Str) (exp : List Nat) (gl : Nat → Option D) (tab : List FnI) : Prop where
  fns : ∀ (f : Nat) (i : FnI), tab[f]? = some i → ∃ fa fd, Fun K i.nm i.qual i.st fa fd ∧ mg i.nm = some (.ref fa) ∧ (∀ us : List Value, us.length = i.ps.length → bindArgs fd ⟨us, []⟩ = pure (i.ps.zip us)) ∧ FnScope i.N i.ps (defScope i.st) ∧ i.look gls exn exp tab = true
  blt : ∀ b : Blt, mg b.nm = none
  zp : mg "zip" = none
  en : mg "enumerate" = none
  ii : mg "isinstance" = none
  bl : mg "bool" = none
  gc : ∀ n y, gls[n]? = some y → (∀ d, gl n = some d → isDct d = false → ∃ v u, mg y = some u ∧ RelV v u ∧ ∀ H Z, Rp K H Z v d) ∧
    ∀ kvs, gl n = some (.dict kvs) → ∃ a, mg y = some (.ref a) ∧ ∀ z d, dVal kvs (.inr z) = some d → ∃ v, KDct K w a z v ∧ ∀ H Z, Rp K H Z v d
/-- the classes of exceptions: what stands behind the top -/
structure ExOk (P : Program) (w : World) (K : PySem.W.Frag) (mg : Str → Option Value) (exn : List Str) (exp : List Nat) (ea : List Addr) : Prop where
  len : ea.length = exn.length
  at_ : ∀ (c : Nat) (y : Str) (A : Addr), exn[c]? = some y → ea[c]? = some A → mg y = some (.ref A) ∧ PySem.W.keepIn K (.ref A) = true ∧ (exp.contains c = false → PySem.W.excIn K A [.type "ValueError", .type "Exception", .type "BaseException", .type "object"] "ValueError.__new__" = true) ∧ PySem.W.subIn K (.ref A) (.type "BaseException") = some true ∧ PySem.W.typeIn K (.ref A) = some (.type "type")
  pl : ∀ (c : Nat) (y : Str) (A : Addr), exn[c]? = some y → ea[c]? = some A → exp.contains c = true → ∃ (fI : Addr) (fd : FuncData), OexC K A ∧ XfC K A ∧ PySem.W.findIn K (.ref A) "place" = some none ∧ PySem.W.findIn K (.ref A) "__init__" = some (some (.ref fI)) ∧ PySem.W.typeIn K (.ref fI) = some (.type "function") ∧
    (∀ base, FnOk P w K mg base (L2.CX P w) 1 fI fd ["self", "place"] (spI A)) ∧ Binds K fd ["self", "place"] []
  ns : ∀ (c : Nat) (y : Str), exn[c]? = some y → ∃ A, ea[c]? = some A ∧ PySem.W.nsIn K mainGlobals y = some (some (.ref A))
  exm : ∀ (c c' : Nat) (A A' : Addr), ea[c]? = some A → ea[c']? = some A' → PySem.W.exmOne K (.ref A') (.ref A) = some (c' == c)
def XRof (K : PySem.W.Frag) (exn : List Str) : Nat → Option D → Value → Option Addr → Hp → (Addr → Prop) → Prop := fun c p cls d H Z => ∃ y A, exn[c]? = some y ∧ PySem.W.nsIn K mainGlobals y = some (some (.ref A)) ∧ cls = .ref A ∧
  ∀ dv, p = some dv → ∃ dd v, d = some dd ∧ H dd = some (.xd [("place", v)]) ∧ Z dd ∧ Rp K H Z v dv
/-- every def does what the small language reckons -/
theorem all_ok {P : Program} {w : World} {K : PySem.W.Frag} {mg : Str → Option Value} {base : Heap} {tab : List FnI} {G : Pg} {gls exn : List Str} {exp : List Nat} {ea : List Addr} (T : TabOk P w K mg gls exn exp G.gl tab) (X : ExOk P w K mg exn exp ea) (hG : G.fns = tab.map FnI.fn) :
    ∀ (k f : Nat) (i : FnI), tab[f]? = some i → ∀ fa fd, Fun K i.nm i.qual i.st fa fd → FnOk P w K mg base (L2.CX P w) (k + 2) fa fd i.ps (spF K (XRof K exn) i.ps.length (callF G k f))
  | 0, f, i, hi, fa, fd, F => ⟨fun vs H Q E h => h.1, fun A outer s H args us vs Q E _ _ _ _ h => by
      obtain ⟨_, Z, ss, fps, _, h⟩ := h
      exact h.elim⟩
  | k + 1, f, i, hi, fa, fd, F => by
    have IH := all_ok (base := base) T X hG k
    obtain ⟨fa', fd', F', hm', hb', hsc, hlook⟩ := T.fns f i hi
    refine F.okX hsc (fun vs H Q E h => h.1) fun cdv A outer s H vs Q E hr h => ?_
    obtain ⟨hlen, Z, ss, fps, rel, h⟩ := h
    have hln : ss.length = vs.length := by have := rel.len; simpa using this
    have hNn : vs.length ≤ i.N.length := by
      have := hsc.pre
      have q := congrArg List.length this
      rw [List.length_take] at q
      omega
    have EX := X
    let X : Cx := cxOf (L2.CX P w) P w K mg base i.N i.qual (defScope i.st) fa cdv A outer s H E
    let S' : Sx := { K := K, XR := XRof K exn, W := fun cls d _ H => E cls d H, M := machOf G k ss }
    have cs : Cs X (i.ck gls exn exp tab) S' := {
      K := rfl, N := rfl, nd := hsc.nd, sc := rfl, fn := fun _ _ => rfl, calm := rfl
      un := by have := hr.un; show (A.deeper _).units + 200 < cLine; omega
      blt := T.blt, zp := T.zp, en := T.en, ii := T.ii, bl := T.bl
      tk := takes_of rfl rfl rfl rfl
      gc := T.gc
      stk := rfl, frm := rfl
      rai := fun c y hc => by
        have hc : exn[c]? = some y := hc
        obtain ⟨A, ha, hn⟩ := EX.ns c y hc
        obtain ⟨h1, h2, h3, h4, h5⟩ := EX.at_ c y _ hc ha
        exact ⟨A, h1, h2, h3, h4, h5, fun H Z => ⟨y, A, hc, hn, rfl, fun dv e => by cases e⟩, fun c' p cls d H Z ⟨y', A', hc', hn', e, _⟩ => by
          obtain ⟨A2, ha2, hn2⟩ := EX.ns c' y' hc'
          rw [hn'] at hn2
          cases hn2
          rw [e]
          exact EX.exm c c' _ A' ha ha2⟩
      rm := hr.mono (by omega)
      rap := fun c y hc hp => by
        have hc : exn[c]? = some y := hc
        obtain ⟨A, ha, hn⟩ := EX.ns c y hc
        obtain ⟨h1, _⟩ := EX.at_ c y _ hc ha
        obtain ⟨fI, fd, p1, p2, p3, p4, p5, p6, p7⟩ := EX.pl c y _ hc ha hp
        refine ⟨A, fI, fd, h1, p1, p2, p3, p4, p5, p6 _, p7, fun H Z dd v dv q1 q2 q3 => ⟨y, A, hc, hn, rfl, fun dv' e => ?_⟩, fun p cls d H Z ⟨y', A', hc', hn', e, q⟩ => ?_⟩
        · cases e
          exact ⟨dd, v, rfl, q1, q2, q3⟩
        · rw [hc] at hc'
          cases hc'
          rw [hn] at hn'
          cases hn'
          exact ⟨e, q⟩
      calls := fun g y hy => by
        have hy : (tab.map (·.nm))[g]? = some y := hy
        rw [List.getElem?_map] at hy
        obtain ⟨j, hj, e⟩ := Option.map_eq_some_iff.mp hy
        subst e
        obtain ⟨ga, gd, GF, gm, gb, gsc, _⟩ := T.fns g j hj
        refine ⟨j.ps.length, k + 2, ga, gd, j.ps, fun ss hs => ?_, IH g j hj ga gd GF, hr, gm, GF.kp, .all gb⟩
        show ss.length = j.ps.length
        have hs : callF G k g ss ≠ .no := hs
        cases k with
        | zero => exact absurd rfl hs
        | succ k =>
          unfold callF at hs
          rw [hG, List.getElem?_map, hj] at hs
          dsimp only [Option.map_some] at hs
          split at hs
          · assumption
          · exact absurd rfl hs
      po := passes_of rfl
      kd := hsc.kind }
    refine ⟨rdSs S' i.body, okSs i.body cs hlook, Z, ss.map some ++ List.replicate (i.N.length - vs.length) none, fps, rel_start rel hNn, ?_⟩
    have hσ : ∀ j : Nat, j < vs.length → (L2.start i.N vs)[j]? = (vs[j]?).map some := fun j hj => by
      unfold L2.start
      rw [List.getElem?_append_left (by simpa using hj), List.getElem?_map]
    unfold callF at h
    rw [hG, List.getElem?_map, hi] at h
    dsimp only [Option.map_some] at h
    have hss : ss.length = (FnI.fn i).np := by show ss.length = i.ps.length; omega
    rw [if_pos hss] at h
    have hrep : (FnI.fn i).nn - (FnI.fn i).np = i.N.length - vs.length := by show i.N.length - i.ps.length = _; omega
    rw [hrep] at h
    show PoS S' (L2.start i.N vs) H Z _ fps [] _ (exSs (machOf G k ss) i.body _)
    have hbody : (FnI.fn i).body = i.body := rfl
    rw [hbody] at h
    have e0 : ({ call := callF G k, pin := pinsOf 0 ss, gl := G.gl, fuel := G.fuel } : Mach) = machOf G k ss := rfl
    rw [e0] at h
    cases q : exSs (machOf G k ss) i.body (ss.map some ++ List.replicate (i.N.length - vs.length) none) with
    | no => rw [q] at h; exact h.elim
    | bk _ => rw [q] at h; exact h.elim
    | ct _ => rw [q] at h; exact h.elim
    | nx env' =>
      rw [q] at h
      dsimp only at h
      cases ho : outsO env' 0 ss with
      | none => rw [ho] at h; exact h.elim
      | some os =>
        rw [ho] at h
        intro σ' H' Z' fp' st pe rel'
        exact h .non H' Z' (fpOut ss fp') [] (st.weak (fun x o => o.elim (fun o => o) fun o => by simp at o) fun x o => .inl (o.elim fpOut_ow fun o => by simp at o)) (out_rel rfl hln hσ ho rel' pe) rel'.zs ⟨.non, rfl⟩ (by simp)
    | rt s' env' =>
      rw [q] at h
      dsimp only at h
      have hfd : isFd s' = false := by
        cases e : isFd s' with
        | false => rfl
        | true => rw [e, if_pos rfl] at h; exact h.elim
      rw [hfd, if_neg (by decide)] at h
      cases ho : outsO env' 0 ss with
      | none => rw [ho] at h; exact h.elim
      | some os =>
        rw [ho] at h
        intro v σ' H' Z' fp' fr st pe rel' hv ap
        exact h v H' Z' (fpOut ss fp') fr (st.weak (fun x o => o.elim (fun o => o) fun o => by simp at o) fun x o => .inl (o.elim (fun o => .inl (fpOut_ow o)) .inr)) (out_rel rfl hln hσ ho rel' pe) rel'.zs hv fun a ha o => ap a ha (fpOut_ow o)
    | ex c p env' =>
      rw [q] at h
      dsimp only at h
      cases ho : outsO env' 0 ss with
      | none => rw [ho] at h; exact h.elim
      | some os =>
        rw [ho] at h
        intro cls d σ' H' Z' fp' st pe rel' xr
        exact h cls d H' Z' (fpOut ss fp') (st.weak (fun x o => o.elim (fun o => o) fun o => by simp at o) fun x o => .inl (fpOut_ow o)) (out_rel rfl hln hσ ho rel' pe) rel'.zs xr
end Rf
end

-- text RfY
section
set_option Elab.async false
set_option linter.all false
set_option maxRecDepth 100000
set_option maxHeartbeats 4000000
/-! RfY: __init__ of the exceptions that bear their place. -/
namespace Rf
open PySem PySem.Spec PyProof.Rows L2
/-- the text of __init__ -/
def initB : List Stmt → Bool
  | [.Expr (.Call (.Attribute (.Name x _) f ap) [.Name y _] [] cp) _, .Assign [.Attribute (.Name z _) g _] (.Name u _) _] => (ap.endLine == cp.line) && decide (x = "SayError") && decide (f = "__init__") && decide (y = "self") && decide (z = "self") && decide (g = "place") && decide (u = "place")
  | _ => false
theorem pe_sinit {X : Cx} {SA : Addr} {y : Str} {p3 : Pos} {ta : TA} {p1 p2 pos : Pos} (hg : Gl X "SayError") (hm : X.mg "SayError" = some (.ref SA)) (hr : PySem.W.readsIn X.K SA (.type "type") = true) (hga : PySem.W.specialIn X.K (.ref SA) "__getattribute__" = some (some (.builtin "type.__getattribute__")))
    (vV : PySem.W.findCls X.K (.ref SA) (.type "type") "__init__" = some (.val (.builtin "ValueError.__init__"))) (ha : PA X [.Name y p3] ta) (hline : (p2.endLine == pos.line) = true) :
    PE X (.Call (.Attribute (.Name "SayError" p1) "__init__" p2) [.Name y p3] [] pos) (tVeI X.K ta) := by
  refine ⟨fun pins s σ H Q I h => ?_⟩
  rw [arm_eval_Call]
  refine wpAny_bind (ld_glob I hg hm ?_ (by decide))
  refine wpAny_bind (wpAny_standAt ?_)
  have hform : methodCallForm ([Expr.Name y p3].length + ([] : List Keyword).length) (backTo pos (starEach [.Name y p3] X.env)) (backToKw pos (keywordEach [] X.env)) = true := rfl
  have hpos : methodCallPos true (.Name "SayError" p1) X.env p2 pos = pure pos := by unfold methodCallPos; simp [hline]
  unfold methodCall
  rw [hform]
  refine wpAny_bind (wpAny_holding ?_)
  refine PySem.W.method_cls I.kIn hga (PySem.W.cls_value I.kIn hr vV (by decide +kernel) ?_)
  refine wpAny_bind (wpAny_of_eq hpos ?_)
  show wpAny _ _ (callWith pos (Value.builtin "ValueError.__init__") [] (backTo pos (starEach [.Name y p3] X.env)) []) _ _ _
  refine PyProof.Rows.callWith_method1 (thn (ha.run pos pins _ σ H _ (I.tok _) h) fun us s1 ⟨vs, H1, I1, r1, a, C, ws, ev, hl, T, ea, q⟩ => ?_) rfl rfl
  subst ev
  cases r1 with
  | @cons _ u0 _ ur ra rw' =>
    obtain rfl : u0 = Value.ref a := ra
    have hlen : ur.length ≤ sizeLine := by
      rw [← Paired.length rw', sizeLine_eq]
      omega
    exact oinit_ok T I1 ea hlen fun s' J => ⟨.non, H1, J, rfl, q⟩
theorem init_ok {P : Program} {w : World} {K : PySem.W.Frag} {mg : Str → Option Value} {base : Heap} {qual : Str} {st : Stmt} {fI : Addr} {fd : FuncData} {A SA : Addr} (F : Fun K "__init__" qual st fI fd) (S : FnScope ["self", "place"] ["self", "place"] (defScope st)) (hb : initB (defBody st) = true)
    (hl0 : (defScope st).names.lookup ("SayError" : Str) = some .globalImplicit) (hl1 : (defScope st).names.lookup ("self" : Str) = some .local) (hl2 : (defScope st).names.lookup ("place" : Str) = some .local)
    (T : OexC K A) (hno : PySem.W.findIn K (.ref A) "place" = some none) (hm : mg "SayError" = some (.ref SA)) (hr : PySem.W.readsIn K SA (.type "type") = true) (hga : PySem.W.specialIn K (.ref SA) "__getattribute__" = some (some (.builtin "type.__getattribute__")))
    (vV : PySem.W.findCls K (.ref SA) (.type "type") "__init__" = some (.val (.builtin "ValueError.__init__"))) : FnOk P w K mg base (L2.CX P w) 1 fI fd ["self", "place"] (spI A) := by
  refine F.okX S (fun vs H Q E h => by obtain ⟨a, y, rfl, _⟩ := h; rfl) fun cdv Ar outer s H vs Q E hr' h => ?_
  obtain ⟨a, y, rfl, ha, q⟩ := h
  unfold initB at hb
  split at hb
  · rename_i x p1 f p2 y' p3 p4 p5 z p6 g p7 u p8 p9 hbody
    simp only [Bool.and_eq_true, decide_eq_true_eq] at hb
    obtain ⟨⟨⟨⟨⟨⟨hline, rfl⟩, rfl⟩, rfl⟩, rfl⟩, rfl⟩, rfl⟩ := hb
    rw [hbody]
    have v0 : ∀ p, PE (cxOf (L2.CX P w) P w K mg base ["self", "place"] qual (defScope st) fI cdv Ar outer s H E) (.Name "self" p) (tVar 0) := fun p => pe_var (i := 0) rfl (.inl hl1) (by decide) (by decide)
    have v1 : ∀ p, PE (cxOf (L2.CX P w) P w K mg base ["self", "place"] qual (defScope st) fI cdv Ar outer s H E) (.Name "place" p) (tVar 1) := fun p => pe_var (i := 1) rfl (.inl hl2) (by decide) (by decide)
    refine ⟨_, pss_cons (ps_expr (pe_sinit (X := cxOf (L2.CX P w) P w K mg base ["self", "place"] qual (defScope st) fI cdv Ar outer s H E) hl0 hm hr hga vV (pa_cons (v0 p3) pa_nil) hline) (by rfl)) (pss_one (ps_ost (v0 p6) (v1 p8) (by rfl))), ?_⟩
    refine ⟨.ref a, rfl, a, A, [], rfl, by simp, T, ha, y, rfl, .ref a, rfl, a, A, rfl, T, hno, .inl ⟨ha, fun dx nx ne => q dx nx ne⟩⟩
  · cases hb
end Rf
end

-- text RfO
section
set_option Elab.async false
set_option linter.all false
set_option maxRecDepth 100000
set_option maxHeartbeats 4000000
/-! RfO: the ends. -/
namespace Rf
open PySem PySem.Spec PyProof.Rows L2
abbrev sL (l : List Nat) : Str := ⟨⟨l⟩⟩
def XR0 : Nat → Option D → Value → Option Addr → Hp → (Addr → Prop) → Prop := fun _ _ _ _ _ _ => False
theorem rpAll_ints {K : PySem.W.Frag} {H : Hp} {Z : Addr → Prop} : ∀ ns : List Int, RpAll K H Z (ns.map V.int) (ns.map PyData.int)
  | [] => .nil
  | n :: r => .cons (.int n) (rpAll_ints r)
def spL (K : PySem.W.Frag) (exn : List Str) (n : Nat) (c : List Sv → CR) : Sp := spF K (XRof K exn) n c
theorem law_sp {K : PySem.W.Frag} {exn : List Str} {H : Hp} {a : Addr} {ns : List Int} {c : List Sv → CR} (hS : SqL K H a (ns.map V.int)) (hc : ∃ outs, c [.dat (.list (ns.map .int))] = .ok (.dat (.bool true)) outs) :
    spL K exn 1 c [.ref a] H (fun v _ => v = .bl true) (fun _ _ _ => False) := by
  unfold spL
  obtain ⟨outs, hc⟩ := hc
  have main : ∀ Z, Zok H Z → Rp K H Z (.ref a) (.list (ns.map .int)) → spF K (XRof K exn) 1 c [.ref a] H (fun v _ => v = .bl true) (fun _ _ _ => False) := fun Z zk hr => by
    refine ⟨rfl, Z, [.dat (.list (ns.map .int))], fun _ => [], ⟨fun j s e => ?_, fun _ _ => rfl, fun i j a h => by simp at h, rfl, zk⟩, ?_⟩
    · rw [slot_map] at e
      cases j with
      | zero => simp at e; subst e; exact ⟨.ref a, rfl, hr, rfl⟩
      | succ j => simp at e
    · rw [hc]
      intro v H' Z' fps' fr _ _ _ hv _
      obtain ⟨hv, _⟩ := hv
      cases hv
      rfl
  rcases hS with hS | hS
  · refine main (fun b => b = a) (fun b e => ?_) (.lst rfl hS (rpAll_ints ns))
    subst e
    rcases hS with e | ⟨o, e⟩ <;> (rw [e]; exact fun q => nomatch q)
  · exact main (fun _ => False) (fun _ q => q.elim) (.slst (fun H' => .inr hS) (rpAll_ints ns))
structure ExB (K : PySem.W.Frag) (pl : Bool) (y : Str) (A : Addr) : Prop where
  ns : PySem.W.nsIn K mainGlobals y = some (some (.ref A))
  kp : PySem.W.keepIn K (.ref A) = true
  ex : pl = false → PySem.W.excIn K A [.type "ValueError", .type "Exception", .type "BaseException", .type "object"] "ValueError.__new__" = true
  sb : PySem.W.subIn K (.ref A) (.type "BaseException") = some true
  ty : PySem.W.typeIn K (.ref A) = some (.type "type")
  cl : PySem.W.isClsIn K A = true
theorem exm_two {K : PySem.W.Frag} {S A : Addr} {b : Bool} (h1 : PySem.W.subIn K (.ref S) (.type "BaseException") = some true) (h2 : PySem.W.isClsIn K S = true) (h3 : PySem.W.typeIn K (.ref S) = some (.type "type")) (h4 : PySem.W.subIn K (.ref A) (.ref S) = some b) : PySem.W.exmOne K (.ref A) (.ref S) = some b := by
  have e1 : (PySem.W.subIn K (.ref S) (.type "BaseException") == some true) = true := by rw [h1] <;> rfl
  have e2 : ((PySem.W.clsIn K S).isSome && PySem.W.typeIn K (.ref S) == some (.type "type")) = true := by
    have h2' : (PySem.W.clsIn K S).isSome = true := h2
    rw [h2', h3] <;> rfl
  show (if (PySem.W.subIn K (.ref S) (.type "BaseException") == some true) = true then (if ((PySem.W.clsIn K S).isSome && PySem.W.typeIn K (.ref S) == some (.type "type")) = true then PySem.W.subIn K (.ref A) (.ref S) else none) else none) = some b
  rw [if_pos e1, if_pos e2]
  exact h4
inductive ExNB (K : PySem.W.Frag) (exp : List Nat) : Nat → List Str → List Addr → Prop
  | nil {k : Nat} : ExNB K exp k [] []
  | cons {k : Nat} {y : Str} {A : Addr} {ys : List Str} {as : List Addr} (b : Bool) (hb : exp.contains k = b) : ExB K b y A → ExNB K exp (k + 1) ys as → ExNB K exp k (y :: ys) (A :: as)
inductive ExmR (K : PySem.W.Frag) (A : Addr) (c : Nat) : Nat → List Addr → Prop
  | nil {k : Nat} : ExmR K A c k []
  | cons {k : Nat} {A' : Addr} {as : List Addr} (b : Bool) (hb : (k == c) = b) (h : PySem.W.subIn K (.ref A') (.ref A) = some b) : ExmR K A c (k + 1) as → ExmR K A c k (A' :: as)
inductive ExmA (K : PySem.W.Frag) (ea : List Addr) : Nat → List Addr → Prop
  | nil {k : Nat} : ExmA K ea k []
  | cons {k : Nat} {A : Addr} {as : List Addr} : ExmR K A k 0 ea → ExmA K ea (k + 1) as → ExmA K ea k (A :: as)
theorem ExNB.at_ {K : PySem.W.Frag} {exp : List Nat} : ∀ {k : Nat} {exn : List Str} {ea : List Addr}, ExNB K exp k exn ea → ea.length = exn.length ∧ ∀ (c : Nat) (y : Str) (A : Addr), exn[c]? = some y → ea[c]? = some A → ExB K (exp.contains (k + c)) y A
  | _, _, _, .nil => ⟨rfl, fun c y A h => by simp at h⟩
  | k, _, _, .cons b hb h r => by
    obtain ⟨h1, h2⟩ := ExNB.at_ r
    refine ⟨by simp [h1], fun c y A e1 e2 => ?_⟩
    cases c with
    | zero => simp at e1 e2; subst e1 e2; rw [Nat.add_zero, hb]; exact h
    | succ c => have := h2 c y A (by simpa using e1) (by simpa using e2); rwa [show k + 1 + c = k + (c + 1) by omega] at this
/-- the facts of a class that bears its place -/
def PlF (P : Program) (w : World) (K : PySem.W.Frag) (mg : Str → Option Value) (A : Addr) : Prop := ∃ (fI : Addr) (fd : FuncData), OexC K A ∧ XfC K A ∧ PySem.W.findIn K (.ref A) "place" = some none ∧ PySem.W.findIn K (.ref A) "__init__" = some (some (.ref fI)) ∧ PySem.W.typeIn K (.ref fI) = some (.type "function") ∧
    (∀ base, FnOk P w K mg base (L2.CX P w) 1 fI fd ["self", "place"] (spI A)) ∧ Binds K fd ["self", "place"] []
theorem pl_mk {P : Program} {w : World} {K : PySem.W.Frag} {h : Heap} {mg : Str → Option Value} {A SA fI : Addr} {qual : Str} {st : Stmt} {nm q : Str} {N : Addr} {bs bm : List Value} {sn : List Str} {sub : List Value} {ab : Bool} {col : Option Bool} {dd : Option Addr} {k0 k1 k2 k3 k5 : Option Value} {od an : Option Addr} {sl : Array (Option Value)} {oc kV dc pm cd ct : Value} (X : K.In h) (G : h.Ns mainGlobals mg)
    (a1 : K.lookup A = some (excClassObj nm q A N bs bm true sn sub ab col dd k0 k1 k2 k3 k5 "ValueError.__new__")) (a0 : PySem.HandSPX.refsVE bm = true)
    (a2 : PySem.W.findIn K (.ref A) "__setattr__" = some (some (.builtin "object.__setattr__"))) (a3 : PySem.W.subIn K (.ref A) (.type "BaseException") = some true) (a4 : PySem.W.typeIn K (.ref A) = some (.type "type")) (a5 : PySem.W.keepIn K (.ref A) = true)
    (a6 : PySem.W.findIn K (.ref A) "__getattribute__" = some (some (.builtin "BaseException.__getattribute__"))) (a7 : PySem.W.findIn K (.ref A) "__getattr__" = some none) (a8 : PySem.W.hasDictIn K A = true) (a9 : PySem.W.findIn K (.ref A) "place" = some none)
    (b1 : PySem.W.findIn K (.ref A) "__init__" = some (some (.ref fI))) (b2 : PySem.W.typeIn K (.ref fI) = some (.type "function")) (b3 : K.lookup fI = some ⟨oc, od, .func (PySem.W.fnOf "__init__" qual (defArgs st) (defBody st) (defScope st) .none kV dc pm an cd ct), sl⟩) (b4 : PySem.W.codeIn K cd qual = true) (b5 : PySem.W.keepIn K (.ref fI) = true)
    (c1 : PySem.W.nsIn K mainGlobals "SayError" = some (some (.ref SA))) (c2 : PySem.W.readsIn K SA (.type "type") = true) (c3 : PySem.W.specialIn K (.ref SA) "__getattribute__" = some (some (.builtin "type.__getattribute__"))) (c4 : PySem.W.findCls K (.ref SA) (.type "type") "__init__" = some (.val (.builtin "ValueError.__init__")))
    (S : FnScope ["self", "place"] ["self", "place"] (defScope st)) (d1 : initB (defBody st) = true) (d2 : (defScope st).names.lookup ("SayError" : Str) = some .globalImplicit) (d3 : (defScope st).names.lookup ("self" : Str) = some .local) (d4 : (defScope st).names.lookup ("place" : Str) = some .local)
    (hb : ∀ (kV doc pm : Value) (an : Option Addr) (cdv ct : Value) (us : List Value), us.length = 2 → bindArgs (PySem.W.fnOf "__init__" qual (defArgs st) (defBody st) (defScope st) .none kV doc pm an cdv ct) ⟨us, []⟩ = pure (([("self" : Str), ("place" : Str)] : List Str).zip us)) : PlF P w K mg A := by
  have T : OexC K A := ⟨⟨_, _, _, _, _, _, _, _, _, _, _, _, _, _, _, a1, a0⟩, a2, a3, a4, a5⟩
  have F := fun_mk (st := st) b3 b4 b5
  exact ⟨fI, _, T, ⟨a6, a7, a3, a8⟩, a9, b1, b2, fun base => init_ok F S d1 d2 d3 d4 T a9 (PySem.W.mg_of X G c1) c2 c3 c4, .all fun us hl => hb kV dc pm an cd ct us hl⟩
inductive ExPl (P : Program) (w : World) (K : PySem.W.Frag) (mg : Str → Option Value) (exn : List Str) (ea : List Addr) : List Nat → Prop
  | nil : ExPl P w K mg exn ea []
  | cons {c : Nat} {A : Addr} {r : List Nat} : ea[c]? = some A → PlF P w K mg A → ExPl P w K mg exn ea r → ExPl P w K mg exn ea (c :: r)
theorem ExPl.at_ {P : Program} {w : World} {K : PySem.W.Frag} {mg : Str → Option Value} {exn : List Str} {ea : List Addr} : ∀ {exp : List Nat}, ExPl P w K mg exn ea exp → ∀ (c : Nat) (A : Addr), ea[c]? = some A → exp.contains c = true → PlF P w K mg A
  | _, .nil, c, A, _, h => by simp at h
  | _, .cons (c := c0) h1 h2 r, c, A, e, h => by
    by_cases hc : c = c0
    · subst hc
      rw [h1] at e
      cases e
      exact h2
    · exact r.at_ c A e (by simpa [hc] using h)
theorem ExmR.at_ {K : PySem.W.Frag} {A : Addr} {c : Nat} : ∀ {k : Nat} {as : List Addr}, ExmR K A c k as → ∀ (i : Nat) (A' : Addr), as[i]? = some A' → PySem.W.subIn K (.ref A') (.ref A) = some (k + i == c)
  | _, _, .nil, i, A', h => by simp at h
  | k, _, .cons b hb h r, i, A', e => by
    cases i with
    | zero => simp at e; subst e; rw [h, Nat.add_zero, hb]
    | succ i => have := r.at_ i A' (by simpa using e); rwa [show k + 1 + i = k + (i + 1) by omega] at this
theorem ExmA.at_ {K : PySem.W.Frag} {ea : List Addr} : ∀ {k : Nat} {as : List Addr}, ExmA K ea k as → ∀ (i : Nat) (A : Addr), as[i]? = some A → ExmR K A (k + i) 0 ea
  | _, _, .nil, i, A', h => by simp at h
  | k, _, .cons h r, i, A', e => by
    cases i with
    | zero => simp at e; subst e; exact h
    | succ i => have := r.at_ i A' (by simpa using e); rwa [show k + 1 + i = k + (i + 1) by omega] at this
theorem ex_fact {P : Program} {w : World} {K : PySem.W.Frag} {h : Heap} {mg : Str → Option Value} {exn : List Str} {exp : List Nat} {ea : List Addr} (X : K.In h) (G : h.Ns mainGlobals mg) (h1 : ExNB K exp 0 exn ea) (h2 : ExmA K ea 0 ea) (h3 : ExPl P w K mg exn ea exp) : ExOk P w K mg exn exp ea := by
  obtain ⟨hl, ha⟩ := h1.at_
  refine ⟨hl, fun c y A e1 e2 => ?_, fun c y A e1 e2 hp => h3.at_ c A e2 hp, fun c y e1 => ?_, fun c c' A A' e1 e2 => ?_⟩
  · have g := ha c y A e1 e2
    rw [Nat.zero_add] at g
    exact ⟨PySem.W.mg_of X G g.ns, g.kp, g.ex, g.sb, g.ty⟩
  · have l : c < ea.length := by rw [hl]; exact (List.getElem?_eq_some_iff.mp e1).1
    have e2 : ea[c]? = some ea[c] := List.getElem?_eq_getElem l
    exact ⟨_, e2, (ha c y _ e1 e2).ns⟩
  · have q := (h2.at_ c A e1).at_ c' A' e2
    rw [Nat.zero_add, Nat.zero_add] at q
    have l : c < exn.length := by rw [← hl]; exact (List.getElem?_eq_some_iff.mp e1).1
    have g := ha c _ A (List.getElem?_eq_getElem l) e1
    exact exm_two g.sb g.cl g.ty q
theorem noCX {P : Program} {w : World} {l : List Env} {H : Hp} {s : Shared} {e : Value} {s' : Shared} (h : L2.CX P w l H s (fun _ _ _ => False) e s') : False := by
  obtain ⟨_, _, _, _, _, _, _, _, _, _, _, _, z⟩ := h
  exact z
theorem all_nil {α : Type} {p : α → Prop} : ∀ i ∈ ([] : List α), p i := fun i h => by simp at h
theorem all_cons {α : Type} {p : α → Prop} {a : α} {l : List α} (h : p a) (r : ∀ i ∈ l, p i) : ∀ i ∈ a :: l, p i := fun i hi => by
  rcases List.mem_cons.mp hi with rfl | hi
  · exact h
  · exact r i hi
theorem all_get {α : Type} {p : α → Prop} {l : List α} (h : ∀ i ∈ l, p i) : ∀ (f : Nat) (i : α), l[f]? = some i → p i := fun f i e => h i (List.mem_of_getElem? e)
theorem fn_fact {K : PySem.W.Frag} {h : Heap} {mg : Str → Option Value} {i : FnI} {gls exn : List Str} {exp : List Nat} {tab : List FnI} {f : Addr} {od an : Option Addr} {sl : Array (Option Value)} {oc kV dc pm cd ct : Value} (X : K.In h) (G : h.Ns mainGlobals mg) (a : PySem.W.nsIn K mainGlobals i.nm = some (some (.ref f)))
    (l : K.lookup f = some ⟨oc, od, .func (PySem.W.fnOf i.nm i.qual (defArgs i.st) (defBody i.st) (defScope i.st) .none kV dc pm an cd ct), sl⟩) (c : PySem.W.codeIn K cd i.qual = true) (k : PySem.W.keepIn K (.ref f) = true)
    (hb : ∀ (kV doc pm : Value) (an : Option Addr) (cdv ct : Value) (us : List Value), us.length = i.ps.length → bindArgs (PySem.W.fnOf i.nm i.qual (defArgs i.st) (defBody i.st) (defScope i.st) .none kV doc pm an cdv ct) ⟨us, []⟩ = pure (i.ps.zip us))
    (sc : FnScope i.N i.ps (defScope i.st)) (lk : i.look gls exn exp tab = true) : ∃ fa fd, Fun K i.nm i.qual i.st fa fd ∧ mg i.nm = some (.ref fa) ∧ (∀ us : List Value, us.length = i.ps.length → bindArgs fd ⟨us, []⟩ = pure (i.ps.zip us)) ∧ FnScope i.N i.ps (defScope i.st) ∧ i.look gls exn exp tab = true := by
  have F := fun_mk (st := i.st) l c k
  exact ⟨f, _, F, PySem.W.mg_of X G a, fun us hl => hb kV dc pm an cd ct us hl, sc, lk⟩
theorem law_F {P : Program} {w : World} {K : PySem.W.Frag} {mg : Str → Option Value} {tab : List FnI} {i : FnI} {n k : Nat} {x y : Str} {fa : Addr} {gls exn : List Str} {exp : List Nat} {G : Pg} (hG : G.fns = tab.map FnI.fn) (hi : tab[n]? = some i) (T : TabOk P w K mg gls exn exp G.gl tab) (EX : ∃ ea, ExOk P w K mg exn exp ea) (hmg : mg y = some (.ref fa)) (hy : i.nm = y) (hx : i.ps = [x]) :
    ∃ fd : FuncData, (∀ (s : Shared) (u : Value), BindsTo s fd ⟨[u], []⟩ [(x, u)]) ∧ ∀ base : Heap, K.In base → base.Ns mainGlobals mg → FnOk P w K mg base (L2.CX P w) (k + 2) fa fd [x] (spL K exn 1 (callF G k n)) := by
  obtain ⟨ea, EX⟩ := EX
  obtain ⟨fa', fd, F, hm, hb, _, _⟩ := T.fns n i hi
  rw [hy, hmg] at hm
  cases hm
  refine ⟨fd, fun s u => ?_, fun base _ _ => ?_⟩
  · have := hb [u] (by rw [hx]; rfl)
    rw [hx] at this
    exact .of_eq this
  · have := all_ok (base := base) T EX hG k n i hi fa fd F
    rw [hx] at this
    exact this
theorem blt_fact {K : PySem.W.Frag} {h : Heap} {mg : Str → Option Value} (X : K.In h) (G : h.Ns mainGlobals mg) (a : PySem.W.nsIn K mainGlobals "len" = some none) (b : PySem.W.nsIn K mainGlobals "abs" = some none) (c : PySem.W.nsIn K mainGlobals "max" = some none) (d : PySem.W.nsIn K mainGlobals "min" = some none)
    (e : PySem.W.nsIn K mainGlobals "sum" = some none) (f : PySem.W.nsIn K mainGlobals "all" = some none) (g : PySem.W.nsIn K mainGlobals "any" = some none) (i : PySem.W.nsIn K mainGlobals "sorted" = some none) (j : PySem.W.nsIn K mainGlobals "tuple" = some none) (k : PySem.W.nsIn K mainGlobals "list" = some none)
    (l : PySem.W.nsIn K mainGlobals "int" = some none) (m : PySem.W.nsIn K mainGlobals "str" = some none) (n : PySem.W.nsIn K mainGlobals "range" = some none) (o : PySem.W.nsIn K mainGlobals "set" = some none) (p : PySem.W.nsIn K mainGlobals "dict" = some none) : ∀ t : Blt, mg t.nm = none := fun t => by
  cases t
  · exact PySem.W.mg_none_of X G a
  · exact PySem.W.mg_none_of X G b
  · exact PySem.W.mg_none_of X G c
  · exact PySem.W.mg_none_of X G d
  · exact PySem.W.mg_none_of X G e
  · exact PySem.W.mg_none_of X G f
  · exact PySem.W.mg_none_of X G g
  · exact PySem.W.mg_none_of X G i
  · exact PySem.W.mg_none_of X G j
  · exact PySem.W.mg_none_of X G k
  · exact PySem.W.mg_none_of X G l
  · exact PySem.W.mg_none_of X G m
  · exact PySem.W.mg_none_of X G n
  · exact PySem.W.mg_none_of X G o
  · exact PySem.W.mg_none_of X G p
/-! ### constants of the top -/
def absT (K : PySem.W.Frag) : Nat → Value → Option (V × D)
  | 0, _ => none
  | n + 1, v => match v with
    | .none => some (.non, .none)
    | .bool b => some (.bl b, .bool b)
    | .int i _ => some (.int i, .int i)
    | .str x _ => if sizeOk x.length && PyData.strOk x then some (.str x, .str x) else none
    | .ref a => match K.lookup a with
      | some ⟨.type "tuple", _, .seq its _, _⟩ => if sizeOk its.size then ((its.toList.mapM (absT K n)).bind fun ps => if statB (ps.map (·.2)) then some ps else none).map fun ps => (.ref a, .tuple (ps.map (·.2))) else none
      | _ => none
    | _ => none
theorem absT_all {K : PySem.W.Frag} {f : Value → Option (V × D)} (hf : ∀ v x d, f v = some (x, d) → RelV x v ∧ ∀ H Z, Rp K H Z x d) : ∀ (vs : List Value) (ps : List (V × D)), vs.mapM f = some ps → Vals (ps.map (·.1)) vs ∧ ∀ H Z, RpAll K H Z (ps.map (·.1)) (ps.map (·.2))
  | [], ps, h => by
    have : ps = [] := by simpa using h.symm
    subst this
    exact ⟨.nil, fun _ _ => .nil⟩
  | v :: vs, ps, h => by
    rw [List.mapM_cons] at h
    obtain ⟨p, h1, h⟩ := Option.bind_eq_some_iff.mp h
    obtain ⟨qs, h2, h⟩ := Option.bind_eq_some_iff.mp h
    have : ps = p :: qs := by simpa using h.symm
    subst this
    obtain ⟨x, d⟩ := p
    obtain ⟨a1, a2⟩ := hf v x d h1
    obtain ⟨b1, b2⟩ := absT_all hf vs qs h2
    exact ⟨.cons a1 b1, fun H Z => .cons (a2 H Z) (b2 H Z)⟩
theorem absT_ok {K : PySem.W.Frag} : ∀ (n : Nat) (v : Value) (x : V) (d : D), absT K n v = some (x, d) → RelV x v ∧ ∀ H Z, Rp K H Z x d
  | 0, _, _, _, h => by cases h
  | n + 1, v, x, d, h => by
    unfold absT at h
    split at h
    · cases h; exact ⟨rfl, fun _ _ => .non⟩
    · cases h; exact ⟨rfl, fun _ _ => .bl _⟩
    · cases h; exact ⟨⟨_, rfl⟩, fun _ _ => .int _⟩
    · split at h
      · rename_i hs
        cases h
        rw [Bool.and_eq_true] at hs
        exact ⟨⟨_, rfl⟩, fun _ _ => .str _ ⟨sizeOk_le hs.1, hs.2⟩⟩
      · cases h
    · split at h
      · rename_i a dd its k sl hl
        split at h
        · rename_i hz
          obtain ⟨ps, h1, h2⟩ := Option.map_eq_some_iff.mp h
          cases h2
          obtain ⟨ps', h0, h1⟩ := Option.bind_eq_some_iff.mp h1
          by_cases hb : statB (ps'.map (·.2)) = true
          rotate_left
          · rw [if_neg hb] at h1; cases h1
          rw [if_pos hb] at h1
          cases h1
          obtain ⟨r1, r2⟩ := absT_all (absT_ok n) _ _ h0
          exact ⟨rfl, fun H Z => .stup hb (fun H' => .inr ⟨_, its, k, hl, rfl, rfl, sizeOk_le hz, r1⟩) (r2 H Z)⟩
        · cases h
      · cases h
    · cases h
/-- a dict of the top with texts as keys -/
def absD (K : PySem.W.Frag) (a : Addr) : List Str → Option (List (D × D))
  | [] => some []
  | z :: r => match PySem.W.nsIn K a z with
    | some (some u) => (match absT K 6 u with
      | some (_, d) => (absD K a r).map ((.str z, d) :: ·)
      | none => none)
    | _ => none
theorem absD_ok {K : PySem.W.Frag} {w : World} {a : Addr} {es : Array DictEntry} {n : Nat} (hl : K.lookup a = some ⟨.type "dict", none, .dict es n, #[]⟩) (hk : PySem.W.KeysLit w.params es.toList) :
    ∀ (ks : List Str) (kvs : List (D × D)), absD K a ks = some kvs → ∀ z d, dVal kvs (.inr z) = some d → ∃ v, KDct K w a z v ∧ ∀ H Z, Rp K H Z v d
  | [], kvs, h, z, d, e => by cases h; cases e
  | y :: r, kvs, h, z, d, e => by
    unfold absD at h
    split at h
    · rename_i u hu
      split at h
      · rename_i x d' hx
        obtain ⟨kvs', h', rfl⟩ := Option.map_eq_some_iff.mp h
        by_cases hz : y = z
        · subst hz
          have : d' = d := by simpa [dVal, List.find?_cons, keyOf] using e
          subst this
          obtain ⟨r1, r2⟩ := absT_ok _ _ _ _ hx
          exact ⟨x, ⟨es, n, u, hl, hk, hu, r1⟩, r2⟩
        · refine absD_ok hl hk r kvs' h' z d ?_
          have hz' : ¬ (Sum.inr y : Key) = Sum.inr z := fun e => hz (Sum.inr.inj e)
          simpa [dVal, List.find?_cons, keyOf, hz'] using e
      · cases h
    · cases h
/-- facts of the constants, one by one -/
inductive GlB (K : PySem.W.Frag) (w : World) (mg : Str → Option Value) : List Str → List D → Prop
  | nil : GlB K w mg [] []
  | tup {y : Str} {ys : List Str} {d : D} {ds : List D} {u : Value} : mg y = some u → (absT K 6 u).map (·.2) = some d → isDct d = false → GlB K w mg ys ds → GlB K w mg (y :: ys) (d :: ds)
  | dct {y : Str} {ys : List Str} {kvs : List (D × D)} {ds : List D} {a : Addr} {es : Array DictEntry} {n : Nat} (ks : List Str) : mg y = some (.ref a) → absD K a ks = some kvs → K.lookup a = some ⟨.type "dict", none, .dict es n, #[]⟩ → PySem.W.KeysLit w.params es.toList → GlB K w mg ys ds → GlB K w mg (y :: ys) (PyData.dict kvs :: ds)
theorem GlB.at_ {K : PySem.W.Frag} {w : World} {mg : Str → Option Value} : ∀ {gls : List Str} {ds : List D}, GlB K w mg gls ds → ∀ (n : Nat) (y : Str), gls[n]? = some y → (∀ d : D, ds[n]? = some d → isDct d = false → ∃ v u, mg y = some u ∧ RelV v u ∧ ∀ H Z, Rp K H Z v d) ∧
    ∀ kvs, ds[n]? = some (PyData.dict kvs) → ∃ a, mg y = some (.ref a) ∧ ∀ z d, dVal kvs (.inr z) = some d → ∃ v, KDct K w a z v ∧ ∀ H Z, Rp K H Z v d
  | _, _, .nil, n, y, h => by simp at h
  | _, _, .tup h1 h2 h3 r, n, y, h => by
    cases n with
    | zero =>
      simp at h; subst h
      refine ⟨fun d e nd => ?_, fun kvs e => ?_⟩
      · simp at e; subst e
        obtain ⟨⟨v, d⟩, h9, rfl⟩ := Option.map_eq_some_iff.mp h2
        obtain ⟨r1, r2⟩ := absT_ok _ _ _ _ h9
        exact ⟨_, _, h1, r1, r2⟩
      · simp at e; subst e; cases h3
    | succ n => exact r.at_ n y (by simpa using h)
  | _, _, .dct ks h1 h2 h3 h4 r, n, y, h => by
    cases n with
    | zero =>
      simp at h; subst h
      refine ⟨fun d e nd => ?_, fun kvs e => ?_⟩
      · simp at e; subst e; cases nd
      · simp at e; subst e
        exact ⟨_, h1, absD_ok h3 h4 ks _ h2⟩
    | succ n => exact r.at_ n y (by simpa using h)
end Rf
end

-- text RfP
section
set_option Elab.async false
set_option linter.all false
set_option maxRecDepth 100000
set_option maxHeartbeats 4000000
/-! RfP: reckoning with the small language. -/
namespace Rf
open PySem L2

theorem mulOk_left {i j : Int} (h1 : -(2 ^ 64) < i) (h2 : i < 2 ^ 64) : mulOk i j = true := by
  unfold mulOk
  rw [decide_eq_true h1, decide_eq_true h2] <;> rfl
theorem mulOk_right {i j : Int} (h1 : -(2 ^ 64) < j) (h2 : j < 2 ^ 64) : mulOk i j = true := by
  unfold mulOk
  rw [decide_eq_true h1, decide_eq_true h2, Bool.and_self, Bool.or_true]
/-! ### terms, one rule each -/
structure Ev (M : Mach) (e : E) (env : En) (r : Rv) (env' : En) : Prop where
  of :: eq : evE M e env = .ok (r, env')
structure EvT (M : Mach) (t : T) (env : En) (k : Bool) (env' : En) : Prop where
  of :: eq : evT M t env = .ok (k, env')
structure EvDs (M : Mach) (es : Es) (env : En) (r : List D) (env' : En) : Prop where
  of :: eq : evDs M es env = .ok (r, env')
structure EvA (M : Mach) (es : Es) (env : En) (r : List Rv) (env' : En) : Prop where
  of :: eq : evA M es env = .ok (r, env')
structure EvO (M : Mach) (e : Oe) (env : En) (r : Option Int) (env' : En) : Prop where
  of :: eq : evO M e env = .ok (r, env')
structure EvI (M : Mach) (e : Itr) (env : En) (r : List D) (env' : En) : Prop where
  of :: eq : evI M e env = .ok (r, env')
structure EvTA (M : Mach) (t : Ts) (env : En) (k : Bool) (env' : En) : Prop where
  of :: eq : evTA M t env = .ok (k, env')
structure EvTO (M : Mach) (t : Ts) (env : En) (k : Bool) (env' : En) : Prop where
  of :: eq : evTO M t env = .ok (k, env')
structure EvOt (M : Mach) (t : Ot) (env : En) (k : Bool) (env' : En) : Prop where
  of :: eq : evOt M t env = .ok (k, env')
structure Ex (M : Mach) (s : S) (env : En) (f : Fl) : Prop where
  of :: eq : exS M s env = f
structure Exs (M : Mach) (s : Ss) (env : En) (f : Fl) : Prop where
  of :: eq : exSs M s env = f
structure Se (env : En) (r : Rv) (d : D) : Prop where
  of :: eq : vw env r = some d
structure Ses (env : En) (r : List Rv) (d : List D) : Prop where
  of :: eq : views env r = some d
structure Fz (env : En) (r : Rv) (d : D) (env' : En) : Prop where
  of :: eq : frz env r = some (d, env')
structure Bn (o : Operator) (x y : D) (r : Rv) : Prop where
  of :: eq : binD o x y = some r
structure Cm (o : CmpOp) (x y : D) (r : Bool) : Prop where
  of :: eq : cmpD o x y = some r
structure Bl (b : Blt) (ds : List D) (r : Rv) : Prop where
  of :: eq : bltD b ds = some r
structure Ob (env : En) (r : Rv) (s : Sv) (env' : En) : Prop where
  of :: eq : own1 env r = some (s, env')
structure Os (M : Mach) (env : En) (r : Rv) (s : Sv) (env' : En) : Prop where
  of :: eq : outS M env r = some (s, env')
theorem bin_add {i j : Int} : Bn .Add (.int i) (.int j) (.dat (.int (i + j))) := ⟨rfl⟩
theorem bin_sub {i j : Int} : Bn .Sub (.int i) (.int j) (.dat (.int (i - j))) := ⟨rfl⟩
theorem bin_mulL {i j : Int} (h1 : -(2 ^ 64) < i) (h2 : i < 2 ^ 64) : Bn .Mult (.int i) (.int j) (.dat (.int (i * j))) := ⟨by simp [binD, mulOk_left h1 h2]⟩
theorem bin_mulR {i j : Int} (h1 : -(2 ^ 64) < j) (h2 : j < 2 ^ 64) : Bn .Mult (.int i) (.int j) (.dat (.int (i * j))) := ⟨by simp [binD, mulOk_right h1 h2]⟩
theorem bin_div {i j : Int} (h1 : 0 < j) (h2 : j < 1073741824) : Bn .FloorDiv (.int i) (.int j) (.dat (.int (i / j))) := ⟨by simp [binD, h1, h2]⟩
theorem bin_mod {i j : Int} (h1 : 0 < j) : Bn .Mod (.int i) (.int j) (.dat (.int (i % j))) := ⟨by simp [binD, h1]⟩
theorem sizeOk_of {n : Nat} (h : n ≤ 16777216) : sizeOk n = true := decide_eq_true h

def b_draw : Ss := (.cons (.ite (.not (.val (.var 1))) (.cons (.exp (.mut .append 1 (.cons (.blt .max (.cons (.bin .Add (.cpr (.blt .abs (.cons (.var 3) .nil)) (.nm 3) (.seq (.var 0)) .no [3]) (.lst (.cons (.int 0) .nil))) .nil)) .nil)))
  .nil) .nil)
  (.cons (.exp (.mut .append 1 (.cons (.int 0) .nil)))
  (.cons (.asg (.nm 4) (.blt .len (.cons (.var 1) .nil)))
  (.cons (.asg (.nm 3) (.ite (.val (.var 0)) (.idx (.var 0) (.bin .Mod (.var 4) (.blt .len (.cons (.var 0) .nil)))) (.int 0)))
  (.cons (.asg (.nm 5) (.bin .Mod (.idx (.var 1) (.int 0)) (.int 65536)))
  (.cons (.set (.var 1) (.int 0) (.bin .FloorDiv (.idx (.var 1) (.int 0)) (.int 65536)))
  (.cons (.asg (.nm 6) (.bin .Mod (.bin .Add (.bin .Add (.var 3) (.bin .Mult (.int 40503) (.var 5))) (.bin .Mult (.int 104729) (.var 4))) (.int 4294967291)))
  (.cons (.asg (.nm 6) (.bin .Mod (.bin .Mult (.bin .Mod (.bin .Mult (.var 6) (.var 6)) (.int 4294967279)) (.int 48271)) (.int 4294967291)))
  (.cons (.asg (.nm 7) (.bin .Mod (.bin .Mult (.bin .Mod (.bin .Mult (.var 6) (.var 6)) (.int 4294967279)) (.int 69621)) (.int 4294967291)))
  (.cons (.ret (.bin .Mod (.bin .Add (.bin .Mult (.bin .FloorDiv (.var 6) (.int 64)) (.int 67108864)) (.bin .FloorDiv (.var 7) (.int 64))) (.var 2)))
  .nil))))))))))


section
variable {M : Mach} {env e1 e2 e3 : En}
theorem ev_var {i : Nat} {d : D} (h : slot env i = some (.dat d)) : Ev M (.var i) env (.dat d) env := ⟨by simp [evE, h]⟩
theorem ev_plc {i : Nat} {ds : List D} (h : slot env i = some (.lst ds)) : Ev M (.var i) env (.plc i) env := ⟨by simp [evE, h]⟩
theorem ev_int {n : Int} : Ev M (.int n) env (.dat (.int n)) env := ⟨by simp [evE]⟩
theorem ev_bl {n : Bool} : Ev M (.bl n) env (.dat (.bool n)) env := ⟨by simp [evE]⟩
theorem ev_non : Ev M .non env (.dat .none) env := ⟨by simp [evE]⟩
theorem ev_str {s : Str} : Ev M (.str s) env (.dat (.str s)) env := ⟨by simp [evE]⟩
theorem vw_dat {d : D} : Se env (.dat d) d := ⟨rfl⟩
theorem vw_tl {d : List D} : Se env (.tl d) (.list d) := ⟨rfl⟩
theorem vw_plc {i : Nat} {d : List D} (h : slot env i = some (.lst d)) : Se env (.plc i) (.list d) := ⟨by simp [vw, h, Sv.view]⟩
theorem frz_dat {d : D} : Fz env (.dat d) (d) env := ⟨rfl⟩
theorem frz_tl {d : List D} : Fz env (.tl d) (.list d) env := ⟨rfl⟩
theorem ev_bin {o : Operator} {a b : E} {ra rb r : Rv} {x y : D} (ha : Ev M a env ra e1) (hb : Ev M b e1 rb e2) (hx : Se e2 ra x) (hy : Se e2 rb y) (h : Bn o x y r) : Ev M (.bin o a b) env r e2 := ⟨by simp [evE, ha.eq, hb.eq, hx.eq, hy.eq, h.eq]⟩
theorem ev_cmp {o : CmpOp} {a b : E} {ra rb : Rv} {x y : D} {k : Bool} (ha : Ev M a env ra e1) (hb : Ev M b e1 rb e2) (hx : Se e2 ra x) (hy : Se e2 rb y) (h : Cm o x y k) : Ev M (.cmp o a b) env (.dat (.bool k)) e2 := ⟨by simp [evE, ha.eq, hb.eq, hx.eq, hy.eq, h.eq]⟩
theorem ev_neg {a : E} {ra : Rv} {i : Int} (ha : Ev M a env ra e1) (hx : Se e1 ra (.int i)) : Ev M (.neg a) env (.dat (.int (-i))) e1 := ⟨by simp [evE, ha.eq, hx.eq]⟩
theorem ev_not {a : E} {ra : Rv} {x : D} (ha : Ev M a env ra e1) (hx : Se e1 ra x) : Ev M (.not a) env (.dat (.bool (!truD x))) e1 := ⟨by simp [evE, ha.eq, hx.eq]⟩
theorem ev_ite_t {c : T} {a b : E} {r : Rv} (hc : EvT M c env true e1) (ha : Ev M a e1 r e2) : Ev M (.ite c a b) env r e2 := ⟨by simp [evE, hc.eq, ha.eq]⟩
theorem ev_ite_f {c : T} {a b : E} {r : Rv} (hc : EvT M c env false e1) (ha : Ev M b e1 r e2) : Ev M (.ite c a b) env r e2 := ⟨by simp [evE, hc.eq, ha.eq]⟩
theorem ev_idx {a b : E} {ra rb : Rv} {x y d : D} (ha : Ev M a env ra e1) (hb : Ev M b e1 rb e2) (hx : Se e2 ra x) (hy : Se e2 rb y) (h : idxD x y = some d) : Ev M (.idx a b) env (.dat d) e2 := ⟨by simp [evE, ha.eq, hb.eq, hx.eq, hy.eq, h]⟩
theorem ev_slc {a : E} {lo hi : Oe} {ra r : Rv} {l h' : Option Int} {x : D} (ha : Ev M a env ra e1) (hl : EvO M lo e1 (l) e2) (hh : EvO M hi e2 (h') e3) (hx : Se e3 ra x) (h : slcD x l h' = some r) : Ev M (.slc a lo hi) env r e3 := ⟨by simp [evE, ha.eq, hl.eq, hh.eq, hx.eq, h]⟩
theorem evO_no : EvO M .no env (none) env := ⟨by simp [evO]⟩
theorem evO_yes {a : E} {ra : Rv} {i : Int} (ha : Ev M a env ra e1) (hx : Se e1 ra (.int i)) : EvO M (.yes a) env (some i) e1 := ⟨by simp [evO, ha.eq, hx.eq]⟩
theorem evDs_nil : EvDs M .nil env ([]) env := ⟨by simp [evDs]⟩
theorem evDs_cons {e : E} {r : Es} {re : Rv} {d : D} {ds : List D} (he : Ev M e env re e1) (hf : Fz e1 re (d) e2) (hr : EvDs M r e2 (ds) e3) : EvDs M (.cons e r) env (d :: ds) e3 := ⟨by simp [evDs, he.eq, hf.eq, hr.eq]⟩
theorem evA_nil : EvA M .nil env ([]) env := ⟨by simp [evA]⟩
theorem evA_cons {e : E} {r : Es} {re : Rv} {rs : List Rv} (he : Ev M e env re e1) (hr : EvA M r e1 (rs) e2) : EvA M (.cons e r) env (re :: rs) e2 := ⟨by simp [evA, he.eq, hr.eq]⟩
theorem ev_tup {es : Es} {ds : List D} (h : EvDs M es env (ds) e1) (hs : sizeOk ds.length = true) : Ev M (.tup es) env (.dat (.tuple ds)) e1 := ⟨by simp [evE, h.eq, hs]⟩
theorem ev_lst {es : Es} {ds : List D} (h : EvDs M es env (ds) e1) (hs : sizeOk ds.length = true) : Ev M (.lst es) env (.tl ds) e1 := ⟨by simp [evE, h.eq, hs]⟩
theorem views_nil : Ses env [] [] := ⟨rfl⟩
theorem views_cons {r : Rv} {rs : List Rv} {d : D} {ds : List D} (h : Se env r d) (h2 : Ses env rs ds) : Ses env (r :: rs) (d :: ds) := ⟨by simp [views, h.eq, h2.eq]⟩
theorem ev_blt {b : Blt} {es : Es} {rs : List Rv} {ds : List D} {r : Rv} (h : EvA M es env (rs) e1) (hv : Ses e1 rs ds) (hb : Bl b ds r) : Ev M (.blt b es) env r e1 := ⟨by simp [evE, h.eq, hv.eq, hb.eq]⟩
theorem ev_mut {m : Mth} {i : Nat} {es : Es} {xs : List D} {s s' : Sv} {ds : List D} {d : D} (h0 : slot env i = some (.lst xs)) (h : EvDs M es env (ds) e1) (h1 : slot e1 i = some s) (h2 : mthW m s ds = some (d, s')) : Ev M (.mut m i es) env (.dat d) (e1.set i (some s')) := ⟨by simp [evE, h0, h.eq, h1, h2]⟩
theorem ev_app {f : Nat} {es : Es} {rs : List Rv} {ss outs : List Sv} {d : D} (h : EvA M es env (rs) e1) (hn : nodupB (places (rs.map (norm e1))) = true) (ha : argsS e1 (rs.map (norm e1)) = some ss) (hc : M.call f ss = .ok (.dat d) outs) : Ev M (.app f es) env (.dat d) (backS (rs.map (norm e1)) outs e1) := ⟨by simp [evE, h.eq, callR, callN, hn, ha, hc]⟩
theorem ev_appL {f : Nat} {es : Es} {rs : List Rv} {ss outs : List Sv} {d : List D} (h : EvA M es env (rs) e1) (hn : nodupB (places (rs.map (norm e1))) = true) (ha : argsS e1 (rs.map (norm e1)) = some ss) (hc : M.call f ss = .ok (.lst d) outs) : Ev M (.app f es) env (.tl d) (backS (rs.map (norm e1)) outs e1) := ⟨by simp [evE, h.eq, callR, callN, hn, ha, hc]⟩
theorem evT_val {e : E} {r : Rv} {x : D} {k : Bool} (h : Ev M e env r e1) (hx : Se e1 r x) (hk : truD x = k) : EvT M (.val e) env k e1 := ⟨by simp [evT, h.eq, hx.eq, hk]⟩
theorem evT_not {t : T} {k k' : Bool} (h : EvT M t env k e1) (hk : (!k) = k') : EvT M (.not t) env k' e1 := ⟨by simp [evT, h.eq, hk]⟩
theorem st_asgP {i : Nat} {e : E} {d : D} (h : Ev M e env (.dat d) env) (hs : store M env i (.dat d) = some e3) : Ex M (.asg (.nm i) e) env (.nx e3) := ⟨by simp [exS, h.eq, asgR, own1, hs]⟩
theorem st_retP {e : E} {d : D} (h : Ev M e env (.dat d) env) : Ex M (.ret e) env (.rt (.dat d) env) := ⟨by simp [exS, h.eq, outS]⟩
theorem evT_and {ts : Ts} {k : Bool} (h : EvTA M ts env (k) e1) : EvT M (.and ts) env k e1 := ⟨by simp [evT, h.eq]⟩
theorem evT_or {ts : Ts} {k : Bool} (h : EvTO M ts env (k) e1) : EvT M (.or ts) env k e1 := ⟨by simp [evT, h.eq]⟩
theorem evTO_one {t : T} {k : Bool} (h : EvT M t env k e1) : EvTO M (.one t) env (k) e1 := ⟨by simp [evTO, h.eq]⟩
theorem evTA_one {t : T} {k : Bool} (h : EvT M t env k e1) : EvTA M (.one t) env (k) e1 := ⟨by simp [evTA, h.eq]⟩
theorem evTO_f {t : T} {r : Ts} {k : Bool} (h : EvT M t env false e1) (h2 : EvTO M r e1 (k) e2) : EvTO M (.cons t r) env (k) e2 := ⟨by simp [evTO, h.eq, h2.eq]⟩
theorem evTO_t {t : T} {r : Ts} (h : EvT M t env true e1) : EvTO M (.cons t r) env (true) e1 := ⟨by simp [evTO, h.eq]⟩
theorem evTA_t {t : T} {r : Ts} {k : Bool} (h : EvT M t env true e1) (h2 : EvTA M r e1 (k) e2) : EvTA M (.cons t r) env (k) e2 := ⟨by simp [evTA, h.eq, h2.eq]⟩
theorem evTA_f {t : T} {r : Ts} (h : EvT M t env false e1) : EvTA M (.cons t r) env (false) e1 := ⟨by simp [evTA, h.eq]⟩
theorem evI_list {e : E} {r : Rv} {xs : List D} (h : Ev M e env r e1) (hf : Fz e1 r (.list xs) e2) : EvI M (.seq e) env (xs) e2 := ⟨by simp [evI, h.eq, hf.eq]⟩
theorem evI_tuple {e : E} {r : Rv} {xs : List D} (h : Ev M e env r e1) (hf : Fz e1 r (.tuple xs) e2) : EvI M (.seq e) env (xs) e2 := ⟨by simp [evI, h.eq, hf.eq]⟩
theorem evI_rng {es : Es} {ds xs : List D} (h : EvDs M es env (ds) e1) (hr : rngD ds = some xs) : EvI M (.rng es) env (xs) e1 := ⟨by simp [evI, h.eq, hr]⟩
theorem evI_zipT {a b : E} {ra rb : Rv} {xs ys : List D} {e4 : En} (h1 : Ev M a env ra e1) (f1 : Fz e1 ra (.tuple xs) e2) (h2 : Ev M b e2 rb e3) (f2 : Fz e3 rb (.tuple ys) e4) : EvI M (.zip a b) env (zipD xs ys) e4 := ⟨by simp [evI, h1.eq, f1.eq, h2.eq, f2.eq]⟩
theorem evOt_no : EvOt M .no env (true) env := ⟨by simp [evOt]⟩
theorem evOt_yes {t : T} {k : Bool} (h : EvT M t env k e1) : EvOt M (.yes t) env (k) e1 := ⟨by simp [evOt, h.eq]⟩
/-! ### statements -/
theorem ss_nil : Exs M .nil env (.nx env) := ⟨by simp [exSs]⟩
theorem ss_nx {s : S} {r : Ss} {f : Fl} (h : Ex M s env (.nx e1)) (h2 : Exs M r e1 (f)) : Exs M (.cons s r) env (f) := ⟨by simp [exSs, h.eq, h2.eq]⟩
theorem ss_rt {s : S} {r : Ss} {v : Sv} (h : Ex M s env (.rt v e1)) : Exs M (.cons s r) env (.rt v e1) := ⟨by simp [exSs, h.eq]⟩
theorem st_asg {i : Nat} {e : E} {r : Rv} {v : Sv} (h : Ev M e env r e1) (ho : Ob e1 r (v) e2) (hs : store M e2 i v = some e3) : Ex M (.asg (.nm i) e) env (.nx e3) := ⟨by simp [exS, h.eq, asgR, ho.eq, hs]⟩
theorem own_dat {d : D} : Ob env (.dat d) (.dat d) env := ⟨rfl⟩
theorem own_tl {d : List D} : Ob env (.tl d) (.lst d) env := ⟨rfl⟩
theorem st_exp {e : E} {r : Rv} (h : Ev M e env r e1) : Ex M (.exp e) env (.nx e1) := ⟨by simp [exS, h.eq]⟩
theorem st_ret {e : E} {r : Rv} {v : Sv} (h : Ev M e env r e1) (ho : Os M e1 r (v) e2) : Ex M (.ret e) env (.rt v e2) := ⟨by simp [exS, h.eq, ho.eq]⟩
theorem out_dat {d : D} : Os M env (.dat d) (.dat d) env := ⟨rfl⟩
theorem st_ite_t {c : T} {a b : Ss} {f : Fl} (h : EvT M c env true e1) (h2 : Exs M a e1 (f)) : Ex M (.ite c a b) env (f) := ⟨by simp [exS, h.eq, h2.eq]⟩
theorem st_ite_f {c : T} {a b : Ss} {f : Fl} (h : EvT M c env false e1) (h2 : Exs M b e1 (f)) : Ex M (.ite c a b) env (f) := ⟨by simp [exS, h.eq, h2.eq]⟩
theorem st_skip {c : T} {a : Ss} (h : EvT M c env false e1) : Ex M (.ite c a .nil) env (.nx e1) := ⟨by simp [exS, h.eq, exSs]⟩
theorem st_for {t : Tg} {it : Itr} {b : Ss} {xs : List D} {f : Fl} (h : EvI M it env (xs) e1) (h2 : forF M t (exSs M b) xs e1 = f) : Ex M (.for t it b) env (f) := ⟨by simp [exS, h.eq, h2]⟩
theorem st_set {j : Nat} {i v : E} {rv ri : Rv} {d : D} {k : D} {xs ys : List D} {e4 e5 : En} (h1 : Ev M v env rv e1) (f1 : Fz e1 rv (d) e2) (hx : Ev M (.var j) e2 (.plc j) e3) (h2 : Ev M i e3 ri e4) (f2 : Fz e4 ri (k) e5)
    (hs : slot e5 j = some (.lst xs)) (hw : setW (.lst xs) k d = some (.lst ys)) : Ex M (.set (.var j) i v) env (.nx (e5.set j (some (.lst ys)))) := ⟨by simp [exS, h1.eq, f1.eq, hx.eq, h2.eq, f2.eq, hs, hw]⟩
end
/-! ### calls -/
theorem call_rt {G : Pg} {k f : Nat} {F : Fn} {ss os : List Sv} {v : Sv} {env : En} (hF : G.fns[f]? = some F) (hn : ss.length = F.np)
    (h : Exs { call := callF G k, pin := pinsOf 0 ss, gl := G.gl, fuel := G.fuel } F.body (ss.map some ++ List.replicate (F.nn - F.np) none) (.rt v env)) (ho : outsO env 0 ss = some os) (hv : isFd v = false := by rfl) : callF G (k + 1) f ss = .ok v os := by
  simp [callF, hF, hn, h.eq, ho, hv]
/-! ### loops -/
theorem wipe_len (env : En) : ∀ own : List Nat, (wipeE env own).length = env.length
  | [] => rfl
  | v :: vs => by simp [wipeE, wipe_len env vs]
theorem back_len (env e0 : En) : ∀ own : List Nat, (backE env e0 own).length = env.length
  | [] => rfl
  | v :: vs => by simp [backE, back_len env e0 vs]
theorem wipe_get (env : En) (j : Nat) : ∀ own : List Nat, (wipeE env own)[j]? = if j ∈ own ∧ j < env.length then some none else env[j]?
  | [] => by simp [wipeE]
  | v :: vs => by
    simp only [wipeE, List.getElem?_set, wipe_len, wipe_get env j vs, List.mem_cons]
    by_cases h1 : v = j <;> by_cases h2 : j < env.length <;> simp [h1, h2, Ne.symm] <;> simp_all
theorem back_get (env e0 : En) (j : Nat) : ∀ own : List Nat, (backE env e0 own)[j]? = if j ∈ own ∧ j < env.length then some (e0[j]?.getD none) else env[j]?
  | [] => by simp [backE]
  | v :: vs => by
    simp only [backE, List.getElem?_set, back_len, back_get env e0 j vs, List.mem_cons]
    by_cases h1 : v = j <;> by_cases h2 : j < env.length <;> simp [h1, h2, Ne.symm] <;> simp_all
theorem back_of {e6 e1 e2 : En} {own : List Nat} (h : wipeE e6 own = wipeE e2 own) (h2 : ∀ v ∈ own, e2[v]? = e1[v]?) : backE e6 e1 own = e2 := by
  have hl : e6.length = e2.length := by have := congrArg List.length h; simpa [wipe_len] using this
  apply List.ext_getElem?
  intro j
  rw [back_get]
  by_cases hj : j ∈ own ∧ j < e6.length
  · rw [if_pos hj, ← h2 j hj.1, List.getElem?_eq_getElem (hl ▸ hj.2)]; rfl
  · rw [if_neg hj]
    have := congrArg (·[j]?) h
    simp only [wipe_get] at this
    rwa [if_neg hj, if_neg (hl ▸ hj)] at this
/-- the turn of a comprehension -/
def cB (M : Mach) (e : E) (t : Tg) (c : Ot) (x : D) (w : En) : R (Option D × En) := (R.opt (asgD M t x w)).bind fun e2 => (evOt M c e2).bind fun (k, e3) =>
          if k then (evE M e e3).bind fun (r, e4) => (R.opt (frz e4 r)).bind fun (d, e5) => .ok (some d, e5) else .ok (none, e3)
theorem cB_some {M : Mach} {e : E} {t : Tg} {c : Ot} {x d : D} {w e2 e3 e4 e5 : En} {r : Rv} (h1 : asgD M t x w = some e2) (h2 : EvOt M c e2 true e3) (h3 : Ev M e e3 r e4) (h4 : Fz e4 r d e5) : cB M e t c x w = .ok (some d, e5) := by
  simp [cB, h1, h2.eq, h3.eq, h4.eq]
theorem cB_none {M : Mach} {e : E} {t : Tg} {c : Ot} {x : D} {w e2 e3 : En} (h1 : asgD M t x w = some e2) (h2 : EvOt M c e2 false e3) : cB M e t c x w = .ok (none, e3) := by
  simp [cB, h1, h2.eq]
theorem loopC_inv {own : List Nat} {f : D → En → R (Option D × En)} (P : Nat → List D → En → Prop) : ∀ (xs : List D) (i : Nat) (acc : List D) (env : En), P i acc (wipeE env own) → acc.length ≤ i → i + xs.length ≤ 16777216 →
    (∀ (j : Nat) (x : D) (acc : List D) (w : En), xs[j]? = some x → P (i + j) acc w → ∃ o e', f x w = .ok (o, e') ∧ P (i + j + 1) (acc ++ o.toList) (wipeE e' own)) →
    ∃ acc' e6, loopC (fun x env => f x (wipeE env own)) xs acc env = .ok (acc', e6) ∧ P (i + xs.length) acc' (wipeE e6 own)
  | [], i, acc, env, hp, _, _, _ => ⟨acc, env, rfl, hp⟩
  | x :: xs, i, acc, env, hp, hl, hn, hs => by
    obtain ⟨o, e', h1, h2⟩ := hs 0 x acc _ rfl hp
    simp only [List.length_cons] at hn
    have ih := fun acc2 (hp2 : P (i + 1) acc2 (wipeE e' own)) (hl2 : acc2.length ≤ i + 1) => loopC_inv P xs (i + 1) acc2 e' hp2 hl2 (by omega) (fun j y a w hy hP => by
      have := hs (j + 1) y a w hy (by rwa [show i + (j + 1) = i + 1 + j by omega])
      rwa [show i + (j + 1) = i + 1 + j by omega] at this)
    cases o with
    | none =>
      obtain ⟨acc', e6, h3, h4⟩ := ih acc (by simpa using h2) (by omega)
      refine ⟨acc', e6, ?_, by rwa [show i + (x :: xs).length = i + 1 + xs.length by simp; omega]⟩
      simp [loopC, h1, h3]
    | some d =>
      obtain ⟨acc', e6, h3, h4⟩ := ih (acc ++ [d]) (by simpa using h2) (by simp; omega)
      refine ⟨acc', e6, ?_, by rwa [show i + (x :: xs).length = i + 1 + xs.length by simp; omega]⟩
      simp [loopC, h1, sizeOk_of (show acc.length + 1 ≤ 16777216 by omega), h3]
/-- a comprehension that changes nothing but its own names -/
theorem ev_cpr {M : Mach} {e : E} {t : Tg} {it : Itr} {c : Ot} {own : List Nat} {env e1 : En} {xs : List D} (g : D → Option D) (hi : EvI M it env xs e1) (hn : xs.length ≤ 16777216)
    (hs : ∀ x ∈ xs, ∃ e', cB M e t c x (wipeE e1 own) = .ok (g x, e') ∧ wipeE e' own = wipeE e1 own) : Ev M (.cpr e t it c own) env (.tl (xs.filterMap g)) e1 := by
  obtain ⟨acc', e6, h1, h2, h3⟩ := loopC_inv (own := own) (f := cB M e t c) (fun i acc w => w = wipeE e1 own ∧ acc = (xs.take i).filterMap g) xs 0 [] (wipeE e1 own) ⟨by
      apply List.ext_getElem?; intro j; simp only [wipe_get, wipe_len]; split <;> simp_all, by simp⟩ (by simp) (by omega) (by
      intro j x acc w hx ⟨hw, ha⟩
      obtain ⟨e', h1, h2⟩ := hs x (List.mem_of_getElem? hx)
      refine ⟨g x, e', hw ▸ h1, h2, ?_⟩
      simp only [Nat.zero_add] at ha ⊢
      rw [List.take_add_one, hx, List.filterMap_append, ha]
      cases h : g x <;> simp [h])
  have h4 := back_of (e1 := e1) h2 (fun _ _ => rfl)
  have h5 : acc' = xs.filterMap g := by simpa using h3
  constructor
  simp only [evE, hi.eq, R.bind_ok]
  show (R.bind (loopC (fun x env => cB M e t c x (wipeE env own)) xs [] (wipeE e1 own)) _) = _
  rw [h1, R.bind_ok, h4, h5]
theorem ev_cpr_map {M : Mach} {e : E} {t : Tg} {it : Itr} {c : Ot} {own : List Nat} {env e1 : En} {xs : List D} (g : D → D) (hi : EvI M it env xs e1) (hn : xs.length ≤ 16777216)
    (hs : ∀ x ∈ xs, ∃ e', cB M e t c x (wipeE e1 own) = .ok (some (g x), e') ∧ wipeE e' own = wipeE e1 own) : Ev M (.cpr e t it c own) env (.tl (xs.map g)) e1 := by
  have := ev_cpr (fun x => some (g x)) hi hn hs
  rwa [List.filterMap_eq_map'] at this
/-- a comprehension whose turns change what lies beyond its own names -/
theorem ev_cprS {M : Mach} {e : E} {t : Tg} {it : Itr} {c : Ot} {own : List Nat} {env e1 : En} {xs : List D} (P : Nat → List D → En → Prop) (hi : EvI M it env xs e1) (hn : xs.length ≤ 16777216) (h0 : P 0 [] (wipeE e1 own))
    (hs : ∀ (j : Nat) (x : D) (acc : List D) (w : En), xs[j]? = some x → P j acc w → ∃ o e', cB M e t c x w = .ok (o, e') ∧ P (j + 1) (acc ++ o.toList) (wipeE e' own)) :
    ∃ acc e6, Ev M (.cpr e t it c own) env (.tl acc) (backE e6 e1 own) ∧ P xs.length acc (wipeE e6 own) := by
  obtain ⟨acc', e6, h1, h2⟩ := loopC_inv (own := own) (f := cB M e t c) P xs 0 [] (wipeE e1 own) (by
      have : wipeE (wipeE e1 own) own = wipeE e1 own := by
        apply List.ext_getElem?; intro j; simp only [wipe_get, wipe_len]; split <;> simp_all
      rwa [this]) (by simp) (by omega) (by simpa using hs)
  refine ⟨acc', e6, ⟨?_⟩, by simpa using h2⟩
  simp only [evE, hi.eq, R.bind_ok]
  show (R.bind (loopC (fun x env => cB M e t c x (wipeE env own)) xs [] (wipeE e1 own)) _) = _
  rw [h1, R.bind_ok]
/-- a loop that keeps P -/
theorem forF_inv {M : Mach} {t : Tg} {b : En → Fl} (P : Nat → En → Prop) : ∀ (xs : List D) (i : Nat) (env : En), P i env → (∀ (j : Nat) (x : D) (env : En), xs[j]? = some x → P (i + j) env → ∃ e1 e2, asgD M t x env = some e1 ∧ (b e1 = .nx e2 ∨ b e1 = .ct e2) ∧ P (i + j + 1) e2) →
    ∃ e', forF M t b xs env = .nx e' ∧ P (i + xs.length) e'
  | [], i, env, hp, _ => ⟨env, rfl, hp⟩
  | x :: xs, i, env, hp, hs => by
    obtain ⟨e1, e2, h1, h2, h3⟩ := hs 0 x env rfl hp
    obtain ⟨e', h4, h5⟩ := forF_inv P xs (i + 1) e2 h3 (fun j y env hy hP => by
      have := hs (j + 1) y env hy (by rwa [show i + (j + 1) = i + 1 + j by omega])
      rwa [show i + (j + 1) = i + 1 + j by omega] at this)
    refine ⟨e', ?_, by rwa [show i + (x :: xs).length = i + 1 + xs.length by simp; omega]⟩
    rcases h2 with h2 | h2 <;> simp [forF, h1, h2, h4]
end Rf
end

-- text RfQ
section
set_option Elab.async false
set_option linter.all false
set_option maxRecDepth 100000
set_option maxHeartbeats 4000000
/-! RfQ: the draw. -/
namespace Rf
open PySem L2
theorem blt_lenL {xs : List D} : Bl .len [.list xs] (.dat (.int xs.length)) := ⟨rfl⟩
theorem blt_lenT {xs : List D} : Bl .len [.tuple xs] (.dat (.int xs.length)) := ⟨rfl⟩
theorem blt_tupL {xs : List D} : Bl .tuple [.list xs] (.dat (.tuple xs)) := ⟨rfl⟩
theorem blt_tupT {xs : List D} : Bl .tuple [.tuple xs] (.dat (.tuple xs)) := ⟨rfl⟩
theorem blt_abs {i : Int} : Bl .abs [.int i] (.dat (.int (if i < 0 then -i else i))) := ⟨rfl⟩
theorem blt_max2 {i j : Int} : Bl .max [.int i, .int j] (.dat (.int (if j > i then j else i))) := ⟨rfl⟩
theorem blt_min2 {i j : Int} : Bl .min [.int i, .int j] (.dat (.int (if j < i then j else i))) := ⟨rfl⟩
theorem ints_map : ∀ ns : List Int, intsOf (ns.map PyData.int) = some ns
  | [] => rfl
  | n :: ns => by simp [intsOf, ints_map ns]
theorem blt_maxL {n : Int} {ns : List Int} {xs : List D} (h : xs = (n :: ns).map .int) : Bl .max [.list xs] (.dat (.int (maxI n ns))) := ⟨by
  subst h; simp only [bltD, ints_map]⟩
theorem at_nat {α : Type} {xs : List α} {i : Int} {x : α} (h0 : 0 ≤ i) (h : xs[i.toNat]? = some x) : atI xs i = some x := by
  obtain ⟨h1, h2⟩ := List.getElem?_eq_some_iff.1 h
  have h3 : i < xs.length := by omega
  simp only [atI, ixN, h0, h3, if_true, Option.bind_some, h]
theorem idx_L {xs : List D} {i : Int} {x : D} (h0 : 0 ≤ i) (h : xs[i.toNat]? = some x) : idxD (.list xs) (.int i) = some x := at_nat h0 h
theorem idx_T {xs : List D} {i : Int} {x : D} (h0 : 0 ≤ i) (h : xs[i.toNat]? = some x) : idxD (.tuple xs) (.int i) = some x := at_nat h0 h
theorem mth_app {xs : List D} {x : D} (h : xs.length + 1 ≤ 16777216) : mthW .append (.lst xs) [x] = some (.none, .lst (xs ++ [x])) := by
  simp only [mthW, sizeOk_of h, if_true]
theorem bin_addL {xs ys : List D} (h : xs.length + ys.length ≤ 16777216) : Bn .Add (.list xs) (.list ys) (.tl (xs ++ ys)) := ⟨by simp only [binD, sizeOk_of h, if_true]⟩
theorem bin_addT {xs ys : List D} (h : xs.length + ys.length ≤ 16777216) : Bn .Add (.tuple xs) (.tuple ys) (.dat (.tuple (xs ++ ys))) := ⟨by simp only [binD, sizeOk_of h, if_true]⟩
/-- the town of a script: nothing, or a number ahead -/
def Town (ts : List D) : Prop := ts = [] ∨ ∃ (t : Int) (r : List D), ts = .int t :: r

theorem draw1 {M : Mach} {ns : List Int} {ts : List D} {m : Int} (hp : M.pin = [1]) (hT : Town ts) (hn : ns.length ≤ 100000) :
    ∃ (t : Int) (r : List D), Ex M (.ite (.not (.val (.var 1))) (.cons (.exp (.mut .append 1 (.cons (.blt .max (.cons (.bin .Add (.cpr (.blt .abs (.cons (.var 3) .nil)) (.nm 3) (.seq (.var 0)) .no [3]) (.lst (.cons (.int 0) .nil))) .nil)) .nil))) .nil) .nil)
      [some (.dat (.list (ns.map .int))), some (.lst ts), some (.dat (.int m)), none, none, none, none, none]
      (.nx [some (.dat (.list (ns.map .int))), some (.lst (.int t :: r)), some (.dat (.int m)), none, none, none, none, none]) ∧ r.length ≤ ts.length := by
  rcases hT with rfl | ⟨t, r, rfl⟩
  · have hst : ∀ (e : En) (v : Sv), 3 < e.length → store M e 3 v = some (e.set 3 (some v)) := fun e v h => by simp [store, hp, h]
    have hc : Ev M (.cpr (.blt .abs (.cons (.var 3) .nil)) (.nm 3) (.seq (.var 0)) .no [3]) [some (.dat (.list (ns.map .int))), some (.lst []), some (.dat (.int m)), none, none, none, none, none] (.tl ((ns.map PyData.int).map fun d => match d with | .int i => .int (if i < 0 then -i else i) | d => d))
        [some (.dat (.list (ns.map .int))), some (.lst []), some (.dat (.int m)), none, none, none, none, none] := by
      refine ev_cpr_map _ (evI_list (ev_var rfl) frz_dat) (by simp; omega) ?_
      intro x hx
      obtain ⟨i, _, rfl⟩ := List.mem_map.1 hx
      refine ⟨_, cB_some (hst _ _ (by simp [wipeE])) evOt_no (ev_blt (evA_cons (ev_var rfl) evA_nil) (views_cons vw_dat views_nil) blt_abs) frz_dat, rfl⟩
    obtain ⟨t, ht⟩ : ∃ t, Bl .max [.list ((ns.map PyData.int).map (fun d => match d with | .int i => .int (if i < 0 then -i else i) | d => d) ++ [.int 0])] (.dat (.int t)) := by
      have : (ns.map PyData.int).map (fun d => match d with | .int i => .int (if i < 0 then -i else i) | d => d) ++ [.int 0] = (ns.map (fun i => if i < 0 then -i else i) ++ [0]).map PyData.int := by
        simp
      rw [this]
      cases h : ns.map (fun i => if i < 0 then -i else i) ++ [0] with
      | nil => simp at h
      | cons a b => exact ⟨_, blt_maxL rfl⟩
    refine ⟨t, [], st_ite_t (evT_not (evT_val (ev_plc rfl) (vw_plc rfl) rfl) rfl) (ss_nx (st_exp (ev_mut rfl (evDs_cons (ev_blt (evA_cons (ev_bin hc (ev_lst (evDs_cons ev_int frz_dat evDs_nil) (sizeOk_of (by simp))) vw_tl vw_tl (bin_addL (by simp; omega))) evA_nil) (views_cons vw_tl views_nil) ht) frz_dat evDs_nil) rfl (mth_app (by simp)))) ss_nil), by simp⟩
  · exact ⟨t, r, st_skip (evT_not (evT_val (ev_plc rfl) (vw_plc rfl) rfl) rfl), by simp⟩

theorem draw_spec {G : Pg} {k f : Nat} {ns : List Int} {ts : List D} {m : Int} (hF : G.fns[f]? = some ⟨3, 8, b_draw⟩) (hT : Town ts) (hn : ns.length ≤ 100000) (hl : ts.length ≤ 10000000) (hm : 0 < m) :
    ∃ (r : Int) (ts' : List D), callF G (k + 1) f [.dat (.list (ns.map .int)), .lst ts, .dat (.int m)] = .ok (.dat (.int r)) [.dat (.list (ns.map .int)), .lst ts', .dat (.int m)] ∧ 0 ≤ r ∧ r < m ∧ Town ts' ∧ ts'.length ≤ ts.length + 2 := by
  obtain ⟨t, r, h1, hr⟩ := draw1 (M := { call := callF G k, pin := [1], gl := G.gl, fuel := G.fuel }) (m := m) rfl hT hn
  -- the cell
  have hcell : ∃ c : Int, ∀ (M : Mach) (e3 e5 e6 e7 : Option Sv) (tv : Sv), Ev M (.ite (.val (.var 0)) (.idx (.var 0) (.bin .Mod (.var 4) (.blt .len (.cons (.var 0) .nil)))) (.int 0)) [some (.dat (.list (ns.map .int))), some tv, some (.dat (.int m)), e3, some (.dat (.int (((PyData.int t :: r) ++ [PyData.int 0]).length : Int))), e5, e6, e7] (.dat (.int c)) [some (.dat (.list (ns.map .int))), some tv, some (.dat (.int m)), e3, some (.dat (.int (((PyData.int t :: r) ++ [PyData.int 0]).length : Int))), e5, e6, e7] := by
    cases ns with
    | nil => exact ⟨0, fun M e3 e5 e6 e7 tv => ev_ite_f (evT_val (ev_var rfl) vw_dat rfl) ev_int⟩
    | cons a as =>
      have hlen : (0 : Int) < (((a :: as).map PyData.int).length : Int) := by simp
      have h0 := Int.emod_nonneg (((PyData.int t :: r) ++ [PyData.int 0]).length : Int) (Int.ne_of_gt hlen)
      have h1 := Int.emod_lt_of_pos (((PyData.int t :: r) ++ [PyData.int 0]).length : Int) hlen
      have h2 : ((((PyData.int t :: r) ++ [PyData.int 0]).length : Int) % (((a :: as).map PyData.int).length : Int)).toNat < (a :: as).length := by
        have : ((a :: as).map PyData.int).length = (a :: as).length := List.length_map ..
        omega
      refine ⟨(a :: as)[((((PyData.int t :: r) ++ [PyData.int 0]).length : Int) % (((a :: as).map PyData.int).length : Int)).toNat], fun M e3 e5 e6 e7 tv => ev_ite_t (evT_val (ev_var rfl) vw_dat rfl) (ev_idx (ev_var rfl) (ev_bin (ev_var rfl) (ev_blt (evA_cons (ev_var rfl) evA_nil) (views_cons vw_dat views_nil) blt_lenL) vw_dat vw_dat (bin_mod hlen)) vw_dat vw_dat (idx_L h0 ?_))⟩
      rw [List.getElem?_map, List.getElem?_eq_getElem h2]; rfl
  obtain ⟨c, hc⟩ := hcell
  generalize hK : (((PyData.int t :: r) ++ [PyData.int 0]).length : Int) = K at hc
  have hK0 : 0 ≤ K := by omega
  have hK1 : K ≤ 10000010 := by rw [← hK]; simp; omega
  generalize hd : t % 65536 = d
  have hd0 : 0 ≤ d := by omega
  have hd1 : d < 65536 := by omega
  generalize hn1 : (c + 40503 * d + 104729 * K) % 4294967291 = n1
  have hn10 : 0 ≤ n1 := by omega
  have hn11 : n1 < 4294967291 := by omega
  generalize hn2 : n1 * n1 % 4294967279 * 48271 % 4294967291 = n2
  have hn20 : 0 ≤ n2 := by omega
  have hn21 : n2 < 4294967291 := by omega
  generalize hn3 : n2 * n2 % 4294967279 * 69621 % 4294967291 = n3
  have hn30 : 0 ≤ n3 := by omega
  have hn31 : n3 < 4294967291 := by omega
  refine ⟨(n2 / 64 * 67108864 + n3 / 64) % m, .int (t / 65536) :: (r ++ [.int 0]), ?_, Int.emod_nonneg _ (Int.ne_of_gt hm), Int.emod_lt_of_pos _ hm, .inr ⟨_, _, rfl⟩, by simp; omega⟩
  refine call_rt hF rfl (env := [some (.dat (.list (ns.map .int))), some (.lst (.int (t / 65536) :: (r ++ [.int 0]))), some (.dat (.int m)), some (.dat (.int c)), some (.dat (.int K)), some (.dat (.int d)), some (.dat (.int n2)), some (.dat (.int n3))]) ?_ rfl
  refine ss_nx h1 ?_
  refine ss_nx (st_exp (ev_mut rfl (evDs_cons ev_int frz_dat evDs_nil) rfl (mth_app (by simp; omega)))) ?_
  refine ss_nx (st_asg (ev_blt (evA_cons (ev_plc rfl) evA_nil) (views_cons (vw_plc rfl) views_nil) blt_lenL) own_dat rfl) ?_
  rw [hK]
  refine ss_nx (st_asg (hc _ _ _ _ _ _) own_dat rfl) ?_
  refine ss_nx (st_asg (ev_bin (ev_idx (ev_plc rfl) ev_int (vw_plc rfl) vw_dat (idx_L (by omega) rfl)) ev_int vw_dat vw_dat (bin_mod (by omega))) own_dat rfl) ?_
  rw [hd]
  refine ss_nx (st_set (ev_bin (ev_idx (ev_plc rfl) ev_int (vw_plc rfl) vw_dat (idx_L (by omega) rfl)) ev_int vw_dat vw_dat (bin_div (by omega) (by omega))) frz_dat (ev_plc rfl) ev_int frz_dat rfl (ys := .int (t / 65536) :: (r ++ [.int 0])) ?_) ?_
  · simp [setW, ixN]
    omega
  refine ss_nx (st_asgP (d := .int n1) (by rw [← hn1]; (repeat' first | exact ev_var rfl | exact ev_plc rfl | exact ev_int | exact ev_bl | exact ev_non | exact ev_str | exact vw_dat | exact vw_tl | exact vw_plc rfl | exact frz_dat | exact frz_tl | exact own_dat | exact own_tl | exact out_dat | exact evDs_nil | exact evA_nil | exact views_nil | exact evO_no | exact evOt_no | apply ev_bin | apply ev_cmp | apply ev_idx | apply ev_slc | apply evO_yes | apply ev_neg | apply ev_not | apply ev_blt | apply evDs_cons | apply evA_cons | apply views_cons | apply ev_tup | apply ev_lst | exact sizeOk_of (by simp) | exact (rfl : truD _ = _) | exact (rfl : (!_) = _) | exact bin_add | exact bin_sub | exact bin_mod (by omega) | exact bin_div (by omega) (by omega) | exact bin_mulL (by omega) (by omega) | exact bin_mulR (by omega) (by omega) | exact blt_lenL | exact blt_lenT | exact blt_tupL | exact blt_tupT | exact blt_abs | exact blt_max2 | exact blt_min2 | apply evT_val | apply evT_not)) rfl) ?_
  refine ss_nx (st_asgP (d := .int n2) (by rw [← hn2]; (repeat' first | exact ev_var rfl | exact ev_plc rfl | exact ev_int | exact ev_bl | exact ev_non | exact ev_str | exact vw_dat | exact vw_tl | exact vw_plc rfl | exact frz_dat | exact frz_tl | exact own_dat | exact own_tl | exact out_dat | exact evDs_nil | exact evA_nil | exact views_nil | exact evO_no | exact evOt_no | apply ev_bin | apply ev_cmp | apply ev_idx | apply ev_slc | apply evO_yes | apply ev_neg | apply ev_not | apply ev_blt | apply evDs_cons | apply evA_cons | apply views_cons | apply ev_tup | apply ev_lst | exact sizeOk_of (by simp) | exact (rfl : truD _ = _) | exact (rfl : (!_) = _) | exact bin_add | exact bin_sub | exact bin_mod (by omega) | exact bin_div (by omega) (by omega) | exact bin_mulL (by omega) (by omega) | exact bin_mulR (by omega) (by omega) | exact blt_lenL | exact blt_lenT | exact blt_tupL | exact blt_tupT | exact blt_abs | exact blt_max2 | exact blt_min2 | apply evT_val | apply evT_not)) rfl) ?_
  refine ss_nx (st_asgP (d := .int n3) (by rw [← hn3]; (repeat' first | exact ev_var rfl | exact ev_plc rfl | exact ev_int | exact ev_bl | exact ev_non | exact ev_str | exact vw_dat | exact vw_tl | exact vw_plc rfl | exact frz_dat | exact frz_tl | exact own_dat | exact own_tl | exact out_dat | exact evDs_nil | exact evA_nil | exact views_nil | exact evO_no | exact evOt_no | apply ev_bin | apply ev_cmp | apply ev_idx | apply ev_slc | apply evO_yes | apply ev_neg | apply ev_not | apply ev_blt | apply evDs_cons | apply evA_cons | apply views_cons | apply ev_tup | apply ev_lst | exact sizeOk_of (by simp) | exact (rfl : truD _ = _) | exact (rfl : (!_) = _) | exact bin_add | exact bin_sub | exact bin_mod (by omega) | exact bin_div (by omega) (by omega) | exact bin_mulL (by omega) (by omega) | exact bin_mulR (by omega) (by omega) | exact blt_lenL | exact blt_lenT | exact blt_tupL | exact blt_tupT | exact blt_abs | exact blt_max2 | exact blt_min2 | apply evT_val | apply evT_not)) rfl) ?_
  refine ss_rt (st_retP (by (repeat' first | exact ev_var rfl | exact ev_plc rfl | exact ev_int | exact ev_bl | exact ev_non | exact ev_str | exact vw_dat | exact vw_tl | exact vw_plc rfl | exact frz_dat | exact frz_tl | exact own_dat | exact own_tl | exact out_dat | exact evDs_nil | exact evA_nil | exact views_nil | exact evO_no | exact evOt_no | apply ev_bin | apply ev_cmp | apply ev_idx | apply ev_slc | apply evO_yes | apply ev_neg | apply ev_not | apply ev_blt | apply evDs_cons | apply evA_cons | apply views_cons | apply ev_tup | apply ev_lst | exact sizeOk_of (by simp) | exact (rfl : truD _ = _) | exact (rfl : (!_) = _) | exact bin_add | exact bin_sub | exact bin_mod (by omega) | exact bin_div (by omega) (by omega) | exact bin_mulL (by omega) (by omega) | exact bin_mulR (by omega) (by omega) | exact blt_lenL | exact blt_lenT | exact blt_tupL | exact blt_tupT | exact blt_abs | exact blt_max2 | exact blt_min2 | apply evT_val | apply evT_not)))
end Rf
end

-- text RfR
section
set_option Elab.async false
set_option linter.all false
set_option maxRecDepth 100000
set_option maxHeartbeats 4000000
/-! RfR: data of ints, comprehensions over them. -/
namespace Rf
open PySem L2
theorem depthAll_ints : ∀ xs : List Int, PyData.depthAll (xs.map PyData.int) ≤ 1
  | [] => by simp [PyData.depthAll]
  | x :: xs => by
    have := depthAll_ints xs
    simp only [List.map_cons, PyData.depthAll, PyData.depth]
    omega
theorem eqvAll_ints : ∀ xs ys : List Int, PyData.eqvAll (xs.map PyData.int) (ys.map PyData.int) = decide (xs = ys)
  | [], [] => rfl
  | [], y :: ys => by simp [PyData.eqvAll]
  | x :: xs, [] => by simp [PyData.eqvAll]
  | x :: xs, y :: ys => by
    have := eqvAll_ints xs ys
    simp only [List.map_cons, PyData.eqvAll, PyData.eqv, this]
    by_cases h1 : x = y <;> by_cases h2 : xs = ys <;> simp [h1, h2]
theorem eqOk_l {a b : D} (h : a.depth ≤ 120) (ha : isDct a = false) (hb : isDct b = false) : eqOk a b = true := by
  unfold eqOk depL
  rw [decide_eq_true (show min a.depth b.depth ≤ 120 by omega), ha, hb]; rfl
theorem depth_tints (xs : List Int) : (PyData.tuple (xs.map .int)).depth ≤ 120 := by
  have := depthAll_ints xs
  simp only [PyData.depth]; omega
theorem cm_neT {xs ys : List Int} : Cm .NotEq (.tuple (xs.map .int)) (.tuple (ys.map .int)) (!decide (xs = ys)) := ⟨by
  have e : eqOk (.tuple (xs.map .int)) (.tuple (ys.map .int)) = true := eqOk_l (depth_tints xs) rfl rfl
  simp only [cmpD, e, if_true, PyData.eqv, eqvAll_ints]⟩
theorem cm_eqT {xs ys : List Int} : Cm .Eq (.tuple (xs.map .int)) (.tuple (ys.map .int)) (decide (xs = ys)) := ⟨by
  have e : eqOk (.tuple (xs.map .int)) (.tuple (ys.map .int)) = true := eqOk_l (depth_tints xs) rfl rfl
  simp only [cmpD, e, if_true, PyData.eqv, eqvAll_ints]⟩
theorem cm_neI {x y : Int} : Cm .NotEq (.int x) (.int y) (!decide (x = y)) := ⟨by
  have : (PyData.int x).depth ≤ 120 := by simp [PyData.depth]
  simp only [cmpD, eqOk_l this rfl, isDct, if_true, PyData.eqv]; rfl⟩
theorem cm_eqI {x y : Int} : Cm .Eq (.int x) (.int y) (decide (x = y)) := ⟨by
  have : (PyData.int x).depth ≤ 120 := by simp [PyData.depth]
  simp only [cmpD, eqOk_l this rfl, isDct, if_true, PyData.eqv]; rfl⟩
theorem cut_from {α : Type} (xs : List α) (n : Nat) : cutL xs (some (n : Int)) none = xs.drop n := by
  simp only [cutL, HT.sIx_nat, HT.sIx_none]
  by_cases h : n ≤ xs.length
  · rw [Nat.min_eq_left h]; apply List.take_of_length_le; simp
  · rw [Nat.min_eq_right (by omega), List.drop_eq_nil_of_le (Nat.le_refl _), List.drop_eq_nil_of_le (by omega)]; simp
theorem cut_to {α : Type} (xs : List α) (n : Nat) : cutL xs none (some (n : Int)) = xs.take n := by
  simp only [cutL, HT.sIx_nat, HT.sIx_none, List.drop_zero, Nat.sub_zero]
  rw [List.take_eq_take_iff]; omega
theorem slc_from {xs : List D} {i : Int} (h : 0 ≤ i) : slcD (.tuple xs) (some i) none = some (.dat (.tuple (xs.drop i.toNat))) := by
  have := cut_from xs i.toNat
  rw [Int.toNat_of_nonneg h] at this
  simp only [slcD, this]
theorem slc_to {xs : List D} {i : Int} (h : 0 ≤ i) : slcD (.tuple xs) none (some i) = some (.dat (.tuple (xs.take i.toNat))) := by
  have := cut_to xs i.toNat
  rw [Int.toNat_of_nonneg h] at this
  simp only [slcD, this]
theorem bin_repT {xs : List D} {k : Int} (h1 : 1 ≤ k) (h2 : k ≤ 1000) (h3 : xs.length ≤ 1000) : Bn .Mult (.tuple xs) (.int k) (.dat (.tuple (List.replicate k.toNat xs).flatten)) := ⟨by
  simp only [binD, decide_eq_true h1, decide_eq_true h2, decide_eq_true h3, Bool.and_self, if_true]⟩
theorem rng_1 {j : Int} (h : 0 ≤ j) (h2 : j ≤ 16777216) : rngD [.int j] = some ((List.range j.toNat).map fun i : Nat => .int (0 + (i : Int))) := by
  simp only [rngD, decide_eq_true (show -(2 ^ 62) ≤ j by omega), decide_eq_true h2, Bool.and_self, if_true]
theorem evI_rng1 {M : Mach} {env e1 : En} {e : E} {j : Int} (h : Ev M e env (.dat (.int j)) e1) (h0 : 0 ≤ j) (h2 : j ≤ 16777216) : EvI M (.rng (.cons e .nil)) env ((List.range j.toNat).map fun i : Nat => .int (0 + (i : Int))) e1 := evI_rng (evDs_cons h frz_dat evDs_nil) (rng_1 h0 h2)
theorem zip_ints : ∀ xs ys : List Int, zipD (xs.map .int) (ys.map .int) = (xs.zip ys).map fun p => .tuple [.int p.1, .int p.2]
  | [], _ => by simp [zipD]
  | _ :: _, [] => by simp [zipD]
  | x :: xs, y :: ys => by
    have := zip_ints xs ys
    simp only [zipD] at this
    simp [zipD, this]
theorem ev_cprA {α : Type} {M : Mach} {e : E} {t : Tg} {it : Itr} {c : Ot} {own : List Nat} {env e1 : En} {f : α → D} {as : List α} (g : α → D) (hi : EvI M it env (as.map f) e1) (hn : as.length ≤ 16777216)
    (hs : ∀ a ∈ as, ∃ e', cB M e t c (f a) (wipeE e1 own) = .ok (some (g a), e') ∧ wipeE e' own = wipeE e1 own) : Ev M (.cpr e t it c own) env (.tl (as.map g)) e1 := by
  obtain ⟨acc', e6, h1, h2, h3⟩ := loopC_inv (own := own) (f := cB M e t c) (fun i acc w => w = wipeE e1 own ∧ acc = (as.take i).map g) (as.map f) 0 [] (wipeE e1 own) ⟨by
      apply List.ext_getElem?; intro j; simp only [wipe_get, wipe_len]; split <;> simp_all, by simp⟩ (by simp) (by simp; omega) (by
      intro j x acc w hx ⟨hw, ha⟩
      rw [List.getElem?_map] at hx
      obtain ⟨a, hy, rfl⟩ := Option.map_eq_some_iff.1 hx
      obtain ⟨e', h1, h2⟩ := hs a (List.mem_of_getElem? hy)
      refine ⟨some (g a), e', hw ▸ h1, h2, ?_⟩
      simp only [Nat.zero_add] at ha ⊢
      rw [List.take_add_one, hy, List.map_append, ha]
      rfl)
  have h4 := back_of (e1 := e1) h2 (fun _ _ => rfl)
  have h5 : acc' = as.map g := by simpa [List.take_of_length_le] using h3
  constructor
  simp only [evE, hi.eq, R.bind_ok]
  show (R.bind (loopC (fun x env => cB M e t c x (wipeE env own)) (as.map f) [] (wipeE e1 own)) _) = _
  rw [h1, R.bind_ok, h4, h5]
/-- a comprehension without tests, its term changes nothing -/
theorem ev_cprP {α : Type} {M : Mach} {e : E} {t : Tg} {it : Itr} {own : List Nat} {env e1 : En} {f : α → D} {as : List α} (g : α → D) (hi : EvI M it env (as.map f) e1) (hn : as.length ≤ 16777216)
    (hs : ∀ a ∈ as, ∃ e2, asgD M t (f a) (wipeE e1 own) = some e2 ∧ wipeE e2 own = wipeE e1 own ∧ Ev M e e2 (.dat (g a)) e2) : Ev M (.cpr e t it .no own) env (.tl (as.map g)) e1 :=
  ev_cprA g hi hn fun a ha => by
    obtain ⟨e2, h1, h2, h3⟩ := hs a ha
    exact ⟨e2, cB_some h1 evOt_no h3 frz_dat, h2⟩
theorem ev_draw {G : Pg} {k f a b : Nat} {M : Mach} {env : En} {ns : List Int} {ts : List D} {m : Int} {e : E} (hM : M.call = callF G (k + 1)) (hF : G.fns[f]? = some ⟨3, 8, b_draw⟩) (hs : slot env a = some (.dat (.list (ns.map .int)))) (ht : slot env b = some (.lst ts)) (hT : Town ts)
    (hn : ns.length ≤ 63) (hl : ts.length ≤ 10000000) (hm : 0 < m) (he : Ev M e env (.dat (.int m)) env) :
    ∃ (r : Int) (ts' : List D), Ev M (.app f (.cons (.var a) (.cons (.var b) (.cons e .nil)))) env (.dat (.int r)) (env.set b (some (.lst ts'))) ∧ 0 ≤ r ∧ r < m ∧ Town ts' ∧ ts'.length ≤ ts.length + 2 := by
  obtain ⟨r, ts', h, h0, h1, h2, h3⟩ := draw_spec (k := k) hF hT (by omega : ns.length ≤ 100000) hl hm
  refine ⟨r, ts', ?_, h0, h1, h2, h3⟩
  have := ev_app (M := M) (f := f) (evA_cons (ev_var hs) (evA_cons (ev_plc ht) (evA_cons he evA_nil))) (by simp [norm, ht, places, nodupB]) (by simp only [List.map, norm, ht, argsS, argS, Option.bind_some, Option.map_some]) (hM ▸ h)
  simpa [norm, ht, backS] using this
theorem ev_app1 {M : Mach} {env : En} {f : Nat} {a : E} {x d : D} {o1 : Sv} (h1 : Ev M a env (.dat x) env) (hc : M.call f [.dat x] = .ok (.dat d) [o1]) : Ev M (.app f (.cons a .nil)) env (.dat d) env :=
  ev_app (evA_cons h1 evA_nil) rfl rfl hc
theorem ev_app2 {M : Mach} {env : En} {f : Nat} {a b : E} {x y d : D} {o1 o2 : Sv} (h1 : Ev M a env (.dat x) env) (h2 : Ev M b env (.dat y) env) (hc : M.call f [.dat x, .dat y] = .ok (.dat d) [o1, o2]) : Ev M (.app f (.cons a (.cons b .nil))) env (.dat d) env :=
  ev_app (evA_cons h1 (evA_cons h2 evA_nil)) rfl rfl hc
theorem ev_app3 {M : Mach} {env : En} {f : Nat} {a b c : E} {x y z d : D} {o1 o2 o3 : Sv} (h1 : Ev M a env (.dat x) env) (h2 : Ev M b env (.dat y) env) (h3 : Ev M c env (.dat z) env) (hc : M.call f [.dat x, .dat y, .dat z] = .ok (.dat d) [o1, o2, o3]) : Ev M (.app f (.cons a (.cons b (.cons c .nil)))) env (.dat d) env :=
  ev_app (evA_cons h1 (evA_cons h2 (evA_cons h3 evA_nil))) rfl rfl hc
/-- a built-in of one term -/
theorem ev_blt1 {M : Mach} {env e1 : En} {b : Blt} {a : E} {ra r : Rv} {x : D} (h1 : Ev M a env ra e1) (hx : Se e1 ra x) (hb : Bl b [x] r) : Ev M (.blt b (.cons a .nil)) env r e1 := ev_blt (evA_cons h1 evA_nil) (views_cons hx views_nil) hb
theorem ev_blt2 {M : Mach} {env : En} {b : Blt} {a c : E} {r : Rv} {x y : D} (h1 : Ev M a env (.dat x) env) (h2 : Ev M c env (.dat y) env) (hb : Bl b [x, y] r) : Ev M (.blt b (.cons a (.cons c .nil))) env r env := ev_blt (evA_cons h1 (evA_cons h2 evA_nil)) (views_cons vw_dat (views_cons vw_dat views_nil)) hb
theorem bin_repTI {xs : List Int} {k : Int} (n : Nat) (hk : k = n) (h1 : 1 ≤ n) (h2 : n ≤ 1000) (h3 : xs.length ≤ 1000) : Bn .Mult (.tuple (xs.map .int)) (.int k) (.dat (.tuple (((List.replicate n xs).flatten).map .int))) := by
  subst hk
  have := bin_repT (xs := xs.map PyData.int) (k := (n : Int)) (by omega) (by omega) (by simpa using h3)
  rwa [Int.toNat_natCast, ← List.map_replicate, ← List.map_flatten] at this
theorem slc_toI {xs : List Int} {i : Int} (h : 0 ≤ i) : slcD (.tuple (xs.map .int)) none (some i) = some (.dat (.tuple ((xs.take i.toNat).map .int))) := by
  rw [slc_to h, List.map_take]
theorem slc_fromI {xs : List Int} {i : Int} (h : 0 ≤ i) : slcD (.tuple (xs.map .int)) (some i) none = some (.dat (.tuple ((xs.drop i.toNat).map .int))) := by
  rw [slc_from h, List.map_drop]
theorem idx_TI {xs : List Int} {i x : Int} (h0 : 0 ≤ i) (h : xs[i.toNat]? = some x) : idxD (.tuple (xs.map .int)) (.int i) = some (.int x) := idx_T h0 (by rw [List.getElem?_map, h]; rfl)
end Rf
end

-- text RfS
section
set_option Elab.async false
set_option linter.all false
set_option maxRecDepth 100000
set_option maxHeartbeats 4000000
/-! RfS: data in general, sorted lists. -/
namespace Rf
open PySem L2
theorem bin_subE {i j k : Int} (h : i - j = k) : Bn .Sub (.int i) (.int j) (.dat (.int k)) := h ▸ bin_sub
theorem bin_addE {i j k : Int} (h : i + j = k) : Bn .Add (.int i) (.int j) (.dat (.int k)) := h ▸ bin_add
theorem blt_sorted {xs : List D} (h : sortOk xs = true) : Bl .sorted [.list xs] (.tl (sortD xs)) := ⟨by simp only [bltD, h, if_true]⟩
theorem blt_sum {xs : List D} {ns : List Int} (h : xs = ns.map .int) : Bl .sum [.list xs] (.dat (.int ns.sum)) := ⟨by subst h; simp only [bltD, ints_map, Option.map_some]⟩
theorem blt_int_b {b : Bool} : Bl .int [.bool b] (.dat (.int (if b then 1 else 0))) := ⟨rfl⟩
theorem sortD_id {xs : List D} (h : xs.Pairwise fun a b => PySem.W.dataLt b a = false) : sortD xs = xs := by
  rw [sortD_ms]
  refine List.mergeSort_of_pairwise (h.imp fun {a b} q => ?_)
  show (!PySem.W.dataLt b a) = true
  rw [q]; rfl
theorem alikeB_map {α : Type} {f : α → D} {as : List α} (h : ∀ a b, PySem.W.alike (f a) (f b) = true) : alikeB (as.map f) = true := by
  unfold alikeB
  simp only [List.all_map, List.all_eq_true, Function.comp]
  intro a _ b _
  exact h a b
theorem depthAll_le {n : Nat} : ∀ {xs : List D}, (∀ x ∈ xs, x.depth ≤ n) → PyData.depthAll xs ≤ n
  | [], _ => by simp [PyData.depthAll]
  | x :: xs, h => by
    have h1 := h x (by simp)
    have h2 := depthAll_le (n := n) (xs := xs) fun y hy => h y (by simp [hy])
    rw [PyData.depthAll]; omega
theorem depthAll_map {α : Type} {n : Nat} {f : α → D} {as : List α} (h : ∀ a, (f a).depth ≤ n) : PyData.depthAll (as.map f) ≤ n := depthAll_le fun x hx => by
  obtain ⟨a, _, rfl⟩ := List.mem_map.1 hx
  exact h a
mutual
theorem eqv_refl : ∀ d : D, noDict d = true → PyData.eqv d d = true
  | .none, _ => rfl
  | .bool _, _ => by simp [PyData.eqv]
  | .int _, _ => by simp [PyData.eqv]
  | .str _, _ => by simp [PyData.eqv]
  | .list xs, h => by rw [PyData.eqv]; exact eqvAll_refl xs (by simpa [noDict] using h)
  | .tuple xs, h => by rw [PyData.eqv]; exact eqvAll_refl xs (by simpa [noDict] using h)
  | .dict _, h => by simp [noDict] at h
theorem eqvAll_refl : ∀ xs : List D, noDicts xs = true → PyData.eqvAll xs xs = true
  | [], _ => rfl
  | x :: xs, h => by
    simp only [noDicts, Bool.and_eq_true] at h
    rw [PyData.eqvAll, eqv_refl x h.1, eqvAll_refl xs h.2]; rfl
end
theorem noDicts_map {α : Type} {f : α → D} : ∀ {as : List α}, (∀ a ∈ as, noDict (f a) = true) → noDicts (as.map f) = true
  | [], _ => rfl
  | a :: as, h => by
    simp only [List.map_cons, noDicts, Bool.and_eq_true]
    exact ⟨h a (by simp), noDicts_map fun b hb => h b (by simp [hb])⟩
/-- unlike: the same data -/
theorem cm_ne_same {x y : D} (e : x = y) (hd : x.depth ≤ 120) (hn : noDict x = true) : Cm .NotEq x y false := ⟨by
  subst e
  have nd : isDct x = false := by cases x <;> first | rfl | (simp [noDict] at hn)
  simp only [cmpD, eqOk_l hd nd nd, if_true, eqv_refl x hn]; rfl⟩
theorem cm_eq_nil {x : D} {xs : List D} : Cm .Eq (.tuple (x :: xs)) (.tuple []) false := ⟨by
  have : eqOk (.tuple (x :: xs)) (.tuple []) = true := by
    unfold eqOk
    rw [decide_eq_true (show min (PyData.tuple (x :: xs)).depth (PyData.tuple []).depth ≤ depL by simp only [PyData.depth, PyData.depthAll]; unfold depL; omega)]; rfl
  simp only [cmpD, this, if_true, PyData.eqv, PyData.eqvAll]⟩
theorem cm_eqS {x y : Str} : Cm .Eq (.str x) (.str y) (x == y) := ⟨by
  have : (PyData.str x).depth ≤ 120 := by simp [PyData.depth]
  have e : eqOk (.str x) (.str y) = true := eqOk_l this rfl rfl
  simp only [cmpD, e, if_true, PyData.eqv]⟩
theorem cm_lt {x y : Int} : Cm .Lt (.int x) (.int y) (decide (x < y)) := ⟨rfl⟩
theorem mem_ints {x : Int} : ∀ {ns : List Int}, (ns.map PyData.int).any (fun y => PyData.eqv y (.int x)) = decide (x ∈ ns)
  | [] => by simp
  | n :: ns => by
    rw [List.map_cons, List.any_cons, mem_ints (ns := ns)]
    by_cases h : n = x
    · simp [PyData.eqv, h]
    · have h2 : (n == x) = false := by simpa using h
      have h3 : ¬ x = n := fun e => h e.symm
      simp [PyData.eqv, h2, h3]
theorem cm_in {x : Int} {ns : List Int} : Cm .In (.int x) (.list (ns.map .int)) (decide (x ∈ ns)) := ⟨by
  have : min (PyData.depthAll (ns.map PyData.int)) (PyData.int x).depth ≤ depL := by
    have := depthAll_ints ns
    unfold depL; omega
  simp only [cmpD, memD, decide_eq_true this, isDct, Bool.not_false, Bool.and_self, if_true, mem_ints]⟩
theorem slcL_to {xs : List D} {i : Int} (h : 0 ≤ i) : slcD (.list xs) none (some i) = some (.tl (xs.take i.toNat)) := by
  have := cut_to xs i.toNat
  rw [Int.toNat_of_nonneg h] at this
  simp only [slcD, this]
theorem enu_map {α : Type} (f : α → D) (as : List α) (d : α) : enuD (as.map f) = (List.range as.length).map fun i => .tuple [.int (i : Nat), f (as.getD i d)] := by
  apply List.ext_getElem?
  intro j
  unfold enuD
  simp only [List.getElem?_zipWith, List.getElem?_map, List.length_map]
  by_cases h : j < as.length
  · simp [h]
  · simp [h]
theorem st_par {M : Mach} {env e1 e2 e3 : En} {is : List Nat} {es : Es} {rs : List Rv} {ss : List Sv} (h : EvA M es env rs e1) (ho : ownAll e1 rs = some (ss, e2)) (hs : storeAll M is ss e2 = some e3) : Ex M (.par is es) env (.nx e3) := ⟨by simp [exS, h.eq, ho, hs]⟩
theorem bin_repT1 {x : D} {k : Int} (n : Nat) (hk : k = n) (h1 : 1 ≤ n) (h2 : n ≤ 1000) : Bn .Mult (.tuple [x]) (.int k) (.dat (.tuple ((List.range n).map fun _ => x))) := by
  subst hk
  have := bin_repT (xs := [x]) (k := (n : Int)) (by omega) (by omega) (by simp)
  rwa [Int.toNat_natCast, List.flatten_replicate_singleton, show List.replicate n x = (List.range n).map fun _ => x by rw [List.map_const', List.length_range]] at this
end Rf
end

-- text RfWa
section
set_option Elab.async false
set_option linter.all false
set_option maxRecDepth 100000
set_option maxHeartbeats 4000000
/-! RfWa: what is asked behind a term, a statement: one rule each, forwards. -/
namespace Rf
open PySem L2

abbrev XP := Nat → Option D → En → Prop
def Rw {α : Type} (x : R α) (Q : α → Prop) (X : XP) : Prop := match x with
  | .ok a => Q a
  | .exc c p e => X c p e
  | .no => False
theorem Rw.bd {α β : Type} {x : R α} {f : α → R β} {Q' : α → Prop} {Q : β → Prop} {X : XP} (h : Rw x Q' X) (hf : ∀ a, Q' a → Rw (f a) Q X) : Rw (x.bind f) Q X := by
  cases x with
  | ok a => exact hf a h
  | exc c p e => exact h
  | no => exact h
theorem Rw.mono {α : Type} {x : R α} {Q' Q : α → Prop} {X : XP} (h : Rw x Q' X) (hf : ∀ a, Q' a → Q a) : Rw x Q X := by
  cases x with
  | ok a => exact hf a h
  | exc c p e => exact h
  | no => exact h
theorem Rw.ob {α β : Type} {o : Option α} {a : α} {f : α → R β} {Q : β → Prop} {X : XP} (h : o = some a) (hf : Rw (f a) Q X) : Rw ((R.opt o).bind f) Q X := by
  subst h; exact hf
structure We (M : Mach) (e : E) (env : En) (Q : Rv → En → Prop) (X : XP) : Prop where
  of :: h : Rw (evE M e env) (fun p => Q p.1 p.2) X
structure Wt (M : Mach) (t : T) (env : En) (Q : Bool → En → Prop) (X : XP) : Prop where
  of :: h : Rw (evT M t env) (fun p => Q p.1 p.2) X
structure WtA (M : Mach) (t : Ts) (env : En) (Q : Bool → En → Prop) (X : XP) : Prop where
  of :: h : Rw (evTA M t env) (fun p => Q p.1 p.2) X
structure WtO (M : Mach) (t : Ts) (env : En) (Q : Bool → En → Prop) (X : XP) : Prop where
  of :: h : Rw (evTO M t env) (fun p => Q p.1 p.2) X
structure Wot (M : Mach) (t : Ot) (env : En) (Q : Bool → En → Prop) (X : XP) : Prop where
  of :: h : Rw (evOt M t env) (fun p => Q p.1 p.2) X
structure Wds (M : Mach) (es : Es) (env : En) (Q : List D → En → Prop) (X : XP) : Prop where
  of :: h : Rw (evDs M es env) (fun p => Q p.1 p.2) X
structure Wa (M : Mach) (es : Es) (env : En) (Q : List Rv → En → Prop) (X : XP) : Prop where
  of :: h : Rw (evA M es env) (fun p => Q p.1 p.2) X
structure Wo (M : Mach) (e : Oe) (env : En) (Q : Option Int → En → Prop) (X : XP) : Prop where
  of :: h : Rw (evO M e env) (fun p => Q p.1 p.2) X
structure Wi (M : Mach) (e : Itr) (env : En) (Q : List D → En → Prop) (X : XP) : Prop where
  of :: h : Rw (evI M e env) (fun p => Q p.1 p.2) X
structure WAn (M : Mach) (e : Es) (env : En) (Q : Rv → En → Prop) (X : XP) : Prop where
  of :: h : Rw (evAnd M e env) (fun p => Q p.1 p.2) X
structure WOr (M : Mach) (e : Es) (env : En) (Q : Rv → En → Prop) (X : XP) : Prop where
  of :: h : Rw (evOr M e env) (fun p => Q p.1 p.2) X
/-- both ways of a test -/
structure Br (k : Bool) (A B : Prop) : Prop where
  of ::
  t : k = true → A
  f : k = false → B
structure Vv (o : Option D) (K : D → Prop) : Prop where
  of :: h : ∃ d, o = some d ∧ K d
structure Fw (env : En) (r : Rv) (K : D → En → Prop) : Prop where
  of :: h : ∃ d e, frz env r = some (d, e) ∧ K d e
structure Wb (o : Operator) (a b : Option D) (K : Rv → Prop) : Prop where
  of :: h : ∃ x y r, a = some x ∧ b = some y ∧ binD o x y = some r ∧ K r
structure Wc (o : CmpOp) (a b : Option D) (K : Bool → Prop) : Prop where
  of :: h : ∃ x y r, a = some x ∧ b = some y ∧ cmpD o x y = some r ∧ K r
structure Wx (a b : Option D) (K : D → Prop) : Prop where
  of :: h : ∃ x y r, a = some x ∧ b = some y ∧ idxD x y = some r ∧ K r
structure Wsl (a : Option D) (l u : Option Int) (K : Rv → Prop) : Prop where
  of :: h : ∃ x r, a = some x ∧ slcD x l u = some r ∧ K r
structure Wbl (b : Blt) (a : Option (List D)) (K : Rv → Prop) : Prop where
  of :: h : ∃ x r, a = some x ∧ bltD b x = some r ∧ K r
structure Wmd (m : Mth) (z : Option D) (a : Option (List D)) (K : Rv → Prop) : Prop where
  of :: h : ∃ y x r, z = some (.str y) ∧ a = some x ∧ mthD m y x = some r ∧ K r
structure SetL (env : En) (i : Nat) (v : Option Sv) (e' : En) : Prop where
  of ::
  lt : i < env.length
  eq : env.set i v = e'
theorem setL_z {a v : Option Sv} {r : En} : SetL (a :: r) 0 v (v :: r) := ⟨by simp, rfl⟩
theorem setL_s {a v : Option Sv} {r r' : En} {i : Nat} (h : SetL r i v r') : SetL (a :: r) (i + 1) v (a :: r') := ⟨by simpa using h.lt, by rw [List.set_cons_succ, h.eq]⟩
theorem setL_o {env : En} {i : Nat} {v : Option Sv} (h : i < env.length) : SetL env i v (env.set i v) := ⟨h, rfl⟩
/-- a slot is set -/
structure Sw (env : En) (i : Nat) (v : Option Sv) (K : En → Prop) : Prop where
  of :: h : K (env.set i v)
theorem sw {env e' : En} {i : Nat} {v : Option Sv} {K : En → Prop} (h : SetL env i v e') (k : K e') : Sw env i v K := ⟨h.eq ▸ k⟩
structure Sto (M : Mach) (env : En) (i : Nat) (s : Sv) (K : En → Prop) : Prop where
  of :: h : ∃ e', store M env i s = some e' ∧ K e'
theorem sto {M : Mach} {env e' : En} {i : Nat} {s : Sv} {K : En → Prop} (hp : M.pin.contains i = false) (h : SetL env i (some s) e') (k : K e') : Sto M env i s K := ⟨e', by simp [store, hp, h.lt, h.eq, -List.contains_eq_mem], k⟩
structure Asd (M : Mach) (t : Tg) (d : D) (env : En) (K : En → Prop) : Prop where
  of :: h : ∃ e', asgD M t d env = some e' ∧ K e'
structure Asds (M : Mach) (t : Tgs) (d : List D) (env : En) (K : En → Prop) : Prop where
  of :: h : ∃ e', asgDs M t d env = some e' ∧ K e'
structure Asr (M : Mach) (t : Tg) (r : Rv) (env : En) (K : En → Prop) : Prop where
  of :: h : ∃ e', asgR M t r env = some e' ∧ K e'
theorem asd_nm {M : Mach} {i : Nat} {d : D} {env : En} {K : En → Prop} (h : Sto M env i (.dat d) K) : Asd M (.nm i) d env K := ⟨h.h⟩
theorem asd_tp {M : Mach} {ts : Tgs} {xs : List D} {env : En} {K : En → Prop} (h : Asds M ts xs env K) : Asd M (.tp ts) (.tuple xs) env K := ⟨h.h⟩
theorem asds_nil {M : Mach} {env : En} {K : En → Prop} (k : K env) : Asds M .nil [] env K := ⟨env, rfl, k⟩
theorem asds_cons {M : Mach} {t : Tg} {ts : Tgs} {x : D} {xs : List D} {env : En} {K : En → Prop} (h : Asd M t x env fun e1 => Asds M ts xs e1 K) : Asds M (.cons t ts) (x :: xs) env K := ⟨by
  obtain ⟨e1, h1, ⟨e2, h2, h3⟩⟩ := h.h
  exact ⟨e2, by simp [asgDs, h1, h2], h3⟩⟩
theorem asr_dat {M : Mach} {i : Nat} {d : D} {env : En} {K : En → Prop} (h : Sto M env i (.dat d) K) : Asr M (.nm i) (.dat d) env K := ⟨by
  obtain ⟨e, h1, h2⟩ := h.h
  exact ⟨e, by simp [asgR, own1, h1], h2⟩⟩
theorem asr_tl {M : Mach} {i : Nat} {d : List D} {env : En} {K : En → Prop} (h : Sto M env i (.lst d) K) : Asr M (.nm i) (.tl d) env K := ⟨by
  obtain ⟨e, h1, h2⟩ := h.h
  exact ⟨e, by simp [asgR, own1, h1], h2⟩⟩
theorem asr_td {M : Mach} {i : Nat} {d : List (D × D)} {env : En} {K : En → Prop} (h : Sto M env i (.dct d) K) : Asr M (.nm i) (.td d) env K := ⟨by
  obtain ⟨e, h1, h2⟩ := h.h
  exact ⟨e, by simp [asgR, own1, h1], h2⟩⟩
theorem asr_tt {M : Mach} {i : Nat} {d : List (D × D)} {env : En} {K : En → Prop} (h : Sto M env i (.dtt d) K) : Asr M (.nm i) (.tt d) env K := ⟨by
  obtain ⟨e, h1, h2⟩ := h.h
  exact ⟨e, by simp [asgR, own1, h1], h2⟩⟩
theorem asr_plc {M : Mach} {i j : Nat} {env : En} {K : En → Prop} (h : Fw env (.plc j) fun d e1 => Sto M e1 i (.dat d) K) : Asr M (.nm i) (.plc j) env K := ⟨by
  obtain ⟨d, e1, h1, ⟨e2, h2, h3⟩⟩ := h.h
  exact ⟨e2, by simp only [asgR, own1, h1, Option.map_some, Option.bind_some, h2], h3⟩⟩
theorem asr_tp {M : Mach} {ts : Tgs} {r : Rv} {env : En} {K : En → Prop} (h : Fw env r fun d e1 => Asd M (.tp ts) d e1 K) : Asr M (.tp ts) r env K := ⟨by
  obtain ⟨d, e1, h1, ⟨e2, h2, h3⟩⟩ := h.h
  exact ⟨e2, by simp [asgR, h1, h2], h3⟩⟩
theorem fw_dat {env : En} {d : D} {K : D → En → Prop} (k : K d env) : Fw env (.dat d) K := ⟨d, env, rfl, k⟩
theorem fw_tl {env : En} {d : List D} {K : D → En → Prop} (k : K (.list d) env) : Fw env (.tl d) K := ⟨_, env, rfl, k⟩
theorem fw_plc {env : En} {i : Nat} {d : List D} {K : D → En → Prop} (h : slot env i = some (.lst d)) (k : Sw env i (some (.dat (.list d))) fun e => K (.list d) e) : Fw env (.plc i) K := ⟨_, _, by simp only [frz, h], k.h⟩
theorem fw_plcd {env : En} {i : Nat} {d : D} {K : D → En → Prop} (h : slot env i = some (.dat d)) (k : K d env) : Fw env (.plc i) K := ⟨_, _, by simp only [frz, h], k⟩

section
variable {M : Mach} {env : En} {Q : Rv → En → Prop} {X : XP}
theorem we_var {i : Nat} {d : D} (h : slot env i = some (.dat d)) (k : Q (.dat d) env) : We M (.var i) env Q X := ⟨by simp only [evE, h]; exact k⟩
theorem we_plc {i : Nat} {d : List D} (h : slot env i = some (.lst d)) (k : Q (.plc i) env) : We M (.var i) env Q X := ⟨by simp only [evE, h]; exact k⟩
theorem we_plk {i : Nat} {d : List (D × D)} (h : slot env i = some (.dct d)) (k : Q (.plc i) env) : We M (.var i) env Q X := ⟨by simp only [evE, h]; exact k⟩
theorem we_plt {i : Nat} {d : List (D × D)} (h : slot env i = some (.dtt d)) (k : Q (.plc i) env) : We M (.var i) env Q X := ⟨by simp only [evE, h]; exact k⟩
theorem we_tnew (k : Q (.tt []) env) : We M .tnew env Q X := ⟨k⟩
theorem we_int {n : Int} (k : Q (.dat (.int n)) env) : We M (.int n) env Q X := ⟨k⟩
theorem we_bl {n : Bool} (k : Q (.dat (.bool n)) env) : We M (.bl n) env Q X := ⟨k⟩
theorem we_non (k : Q (.dat .none) env) : We M .non env Q X := ⟨k⟩
theorem we_str {s : Str} (k : Q (.dat (.str s)) env) : We M (.str s) env Q X := ⟨k⟩
theorem we_dnew (k : Q (.td []) env) : We M .dnew env Q X := ⟨k⟩
theorem we_gbl {n : Nat} {d : D} (h : M.gl n = some d) (hd : isDct d = false) (k : Q (.dat d) env) : We M (.gbl n) env Q X := ⟨by simp only [evE, h]; exact Rw.ob rfl (by rw [hd]; exact k)⟩
theorem we_bin {o : Operator} {a b : E} (h : We M a env (fun ra e1 => We M b e1 (fun rb e2 => Wb o (vw e2 ra) (vw e2 rb) fun r => Q r e2) X) X) : We M (.bin o a b) env Q X := ⟨by
  simp only [evE]
  exact h.h.bd fun ⟨ra, e1⟩ h => h.h.bd fun ⟨rb, e2⟩ ⟨⟨x, y, r, h1, h2, h3, h4⟩⟩ => Rw.ob h1 (Rw.ob h2 (Rw.ob h3 h4))⟩
theorem we_cmp {o : CmpOp} {a b : E} (h : We M a env (fun ra e1 => We M b e1 (fun rb e2 => Wc o (vw e2 ra) (vw e2 rb) fun r => Q (.dat (.bool r)) e2) X) X) : We M (.cmp o a b) env Q X := ⟨by
  simp only [evE]
  exact h.h.bd fun ⟨ra, e1⟩ h => h.h.bd fun ⟨rb, e2⟩ ⟨⟨x, y, r, h1, h2, h3, h4⟩⟩ => Rw.ob h1 (Rw.ob h2 (Rw.ob h3 h4))⟩
theorem we_chn {o p : CmpOp} {a b c : E} (h : We M a env (fun ra e1 => We M b e1 (fun rb e2 => Wc o (vw e2 ra) (vw e2 rb) fun k => Br k (We M c e2 (fun rc e3 => Wc p (vw e3 rb) (vw e3 rc) fun k2 => Q (.dat (.bool k2)) e3) X) (Q (.dat (.bool false)) e2)) X) X) : We M (.chn o p a b c) env Q X := ⟨by
  simp only [evE]
  refine h.h.bd fun ⟨ra, e1⟩ h => h.h.bd fun ⟨rb, e2⟩ ⟨⟨x, y, r, h1, h2, h3, h4⟩⟩ => Rw.ob h1 (Rw.ob h2 (Rw.ob h3 ?_))
  cases r with
  | false => exact h4.f rfl
  | true => exact (h4.t rfl).h.bd fun ⟨rc, e3⟩ ⟨⟨x, y, r, h1, h2, h3, h4⟩⟩ => Rw.ob h1 (Rw.ob h2 (Rw.ob h3 h4))⟩
theorem we_neg {a : E} (h : We M a env (fun ra e1 => Vv (vw e1 ra) fun d => ∃ i, d = .int i ∧ Q (.dat (.int (-i))) e1) X) : We M (.neg a) env Q X := ⟨by
  simp only [evE]
  refine h.h.bd fun ⟨ra, e1⟩ ⟨⟨d, h1, i, h2, h3⟩⟩ => ?_
  subst h2
  simp only [h1]; exact h3⟩
theorem we_not {a : E} (h : We M a env (fun ra e1 => Vv (vw e1 ra) fun d => Q (.dat (.bool (!truD d))) e1) X) : We M (.not a) env Q X := ⟨by
  simp only [evE]
  exact h.h.bd fun ⟨ra, e1⟩ ⟨⟨d, h1, h3⟩⟩ => Rw.ob h1 h3⟩
theorem we_ite {c : T} {a b : E} (h : Wt M c env (fun k e1 => Br k (We M a e1 Q X) (We M b e1 Q X)) X) : We M (.ite c a b) env Q X := ⟨by
  simp only [evE]
  refine h.h.bd fun ⟨k, e1⟩ h => ?_
  cases k with
  | false => exact (h.f rfl).h
  | true => exact (h.t rfl).h⟩
theorem we_tup {es : Es} (h : Wds M es env (fun ds e1 => ds.length ≤ 16777216 ∧ Q (.dat (.tuple ds)) e1) X) : We M (.tup es) env Q X := ⟨by
  simp only [evE]
  refine h.h.bd fun ⟨ds, e1⟩ ⟨h1, h2⟩ => ?_
  simp only [sizeOk_of h1, if_true]; exact h2⟩
theorem we_lst {es : Es} (h : Wds M es env (fun ds e1 => ds.length ≤ 16777216 ∧ Q (.tl ds) e1) X) : We M (.lst es) env Q X := ⟨by
  simp only [evE]
  refine h.h.bd fun ⟨ds, e1⟩ ⟨h1, h2⟩ => ?_
  simp only [sizeOk_of h1, if_true]; exact h2⟩
theorem we_idx {a b : E} (h : We M a env (fun ra e1 => We M b e1 (fun rb e2 => Wx (vw e2 ra) (vw e2 rb) fun r => Q (.dat r) e2) X) X) : We M (.idx a b) env Q X := ⟨by
  simp only [evE]
  exact h.h.bd fun ⟨ra, e1⟩ h => h.h.bd fun ⟨rb, e2⟩ ⟨⟨x, y, r, h1, h2, h3, h4⟩⟩ => Rw.ob h1 (Rw.ob h2 (Rw.ob h3 h4))⟩
theorem we_slc {a : E} {lo hi : Oe} (h : We M a env (fun ra e1 => Wo M lo e1 (fun l e2 => Wo M hi e2 (fun u e3 => Wsl (vw e3 ra) l u fun r => Q r e3) X) X) X) : We M (.slc a lo hi) env Q X := ⟨by
  simp only [evE]
  exact h.h.bd fun ⟨ra, e1⟩ h => h.h.bd fun ⟨rb, e2⟩ h => h.h.bd fun ⟨rc, e3⟩ ⟨⟨x, r, h1, h3, h4⟩⟩ => Rw.ob h1 (Rw.ob h3 h4)⟩
theorem we_blt {b : Blt} {es : Es} (h : Wa M es env (fun rs e1 => Wbl b (views e1 rs) fun r => Q r e1) X) : We M (.blt b es) env Q X := ⟨by
  simp only [evE]
  exact h.h.bd fun ⟨ra, e1⟩ ⟨⟨x, r, h1, h3, h4⟩⟩ => Rw.ob h1 (Rw.ob h3 h4)⟩
theorem we_isi {a : E} {t : Ty} (h : We M a env (fun ra e1 => Vv (vw e1 ra) fun d => isDct d = false ∧ Q (.dat (.bool (isT t d))) e1) X) : We M (.isi a t) env Q X := ⟨by
  simp only [evE]
  refine h.h.bd fun ⟨ra, e1⟩ ⟨⟨d, h1, h2, h3⟩⟩ => Rw.ob h1 ?_
  rw [h2]; exact h3⟩
theorem we_mth {m : Mth} {o : E} {es : Es} (h : We M o env (fun ro e1 => Vv (vw e1 ro) fun d => ∃ z, d = .str z ∧ Wa M es e1 (fun rs e2 => Wmd m (some (.str z)) (views e2 rs) fun r => Q r e2) X) X) : We M (.mth m o es) env Q X := ⟨by
  simp only [evE]
  refine h.h.bd fun ⟨ra, e1⟩ ⟨⟨d, h1, z, h2, h3⟩⟩ => ?_
  subst h2
  simp only [h1]
  refine h3.h.bd fun ⟨rs, e2⟩ ⟨⟨y, x, r, g0, g1, g2, g3⟩⟩ => ?_
  cases g0
  exact Rw.ob g1 (Rw.ob g2 g3)⟩
theorem we_and {es : Es} (h : WAn M es env Q X) : We M (.and es) env Q X := ⟨by simp only [evE]; exact h.h⟩
theorem we_or {es : Es} (h : WOr M es env Q X) : We M (.or es) env Q X := ⟨by simp only [evE]; exact h.h⟩
theorem wan_1 {e : E} (h : We M e env Q X) : WAn M (.cons e .nil) env Q X := ⟨by simp only [evAnd]; exact h.h⟩
theorem wor_1 {e : E} (h : We M e env Q X) : WOr M (.cons e .nil) env Q X := ⟨by simp only [evOr]; exact h.h⟩
theorem wan_c {e f : E} {r : Es} (h : We M e env (fun re e1 => Vv (vw e1 re) fun x => Br (truD x) (WAn M (.cons f r) e1 Q X) (Q re e1)) X) : WAn M (.cons e (.cons f r)) env Q X := ⟨by
  simp only [evAnd]
  refine h.h.bd fun ⟨ra, e1⟩ ⟨⟨d, h1, h2⟩⟩ => Rw.ob h1 ?_
  cases hd : truD d with
  | false => exact h2.f hd
  | true => exact (h2.t hd).h⟩
theorem wor_c {e f : E} {r : Es} (h : We M e env (fun re e1 => Vv (vw e1 re) fun x => Br (truD x) (Q re e1) (WOr M (.cons f r) e1 Q X)) X) : WOr M (.cons e (.cons f r)) env Q X := ⟨by
  simp only [evOr]
  refine h.h.bd fun ⟨ra, e1⟩ ⟨⟨d, h1, h2⟩⟩ => Rw.ob h1 ?_
  cases hd : truD d with
  | false => exact (h2.f hd).h
  | true => exact h2.t hd⟩
theorem we_rev {a : E} (h : We M a env (fun ra e1 => Vv (vw e1 ra) fun d => ∃ xs, d = .list xs ∧ Q (.tl xs.reverse) e1) X) : We M (.rev a) env Q X := ⟨by
  simp only [evE]
  refine h.h.bd fun ⟨ra, e1⟩ ⟨⟨d, h1, i, h2, h3⟩⟩ => ?_
  subst h2
  simp only [h1]; exact h3⟩
theorem we_gix {n : Nat} {a : E} {kvs : List (D × D)} (hg : M.gl n = some (.dict kvs)) (h : We M a env (fun ra e1 => Vv (vw e1 ra) fun d => ∃ z v, d = .str z ∧ dVal kvs (.inr z) = some v ∧ Q (.dat v) e1) X) : We M (.gix n a) env Q X := ⟨by
  simp only [evE, hg]
  refine h.h.bd fun ⟨ra, e1⟩ ⟨⟨d, h1, z, v, h2, h3, h4⟩⟩ => ?_
  subst h2
  simp only [h1]; exact Rw.ob h3 h4⟩
theorem we_mmd {b : Blt} {a x : E} (h : We M a env (fun ra e1 => We M x e1 (fun rb e2 => Vv (vw e2 ra) fun d => Vv (vw e2 rb) fun dx => ∃ r, mmdD b d dx = some r ∧ Q (.dat r) e2) X) X) : We M (.mmd b a x) env Q X := ⟨by
  simp only [evE]
  exact h.h.bd fun ⟨ra, e1⟩ h => h.h.bd fun ⟨rb, e2⟩ ⟨⟨d, h1, ⟨dx, h2, r, h3, h4⟩⟩⟩ => Rw.ob h1 (Rw.ob h2 (Rw.ob h3 h4))⟩
theorem we_dsp {es : Es} (h : Wds M es env (fun ds e1 => ∃ ps kvs, pairUp ds = some ps ∧ ps.length ≤ 15 ∧ putAll [] ps = some kvs ∧ Q (.td kvs) e1) X) : We M (.dsp es) env Q X := ⟨by
  simp only [evE]
  refine h.h.bd fun ⟨ds, e1⟩ ⟨ps, kvs, h1, h2, h3, h4⟩ => Rw.ob h1 ?_
  simp only [decide_eq_true h2, if_true]
  exact Rw.ob h3 h4⟩
theorem we_dgx {d a x : E} (h : We M d env (fun rd e0 => ∃ kvs, rd = .td kvs ∧ We M a e0 (fun rk e1 => Fw e1 rk fun dk e2 => We M x e2 (fun rx e3 => Fw e3 rx fun dx e4 => ∃ q, keyOf dk = some q ∧ Q (.dat ((dVal kvs q).getD dx)) e4) X) X) X) : We M (.dgx d a x) env Q X := ⟨by
  simp only [evE]
  refine h.h.bd fun ⟨rd, e0⟩ ⟨kvs, h0, h1⟩ => ?_
  subst h0
  refine h1.h.bd fun ⟨rk, e1⟩ ⟨⟨dk, e2, h1, h2⟩⟩ => Rw.ob h1 ?_
  refine h2.h.bd fun ⟨rx, e3⟩ ⟨⟨dx, e4, h3, q, h5, h6⟩⟩ => Rw.ob h3 ?_
  exact Rw.ob h5 h6⟩
theorem we_dget {i : Nat} {a x : E} {k0 : List (D × D)} (h0 : slot env i = some (.dct k0)) (h : We M a env (fun rk e1 => Fw e1 rk fun dk e2 => We M x e2 (fun rx e3 => Fw e3 rx fun dx e4 => ∃ kvs q, slot e4 i = some (.dct kvs) ∧ keyOf dk = some q ∧ Q (.dat ((dVal kvs q).getD dx)) e4) X) X) : We M (.dget i a x) env Q X := ⟨by
  simp only [evE, h0]
  refine h.h.bd fun ⟨rk, e1⟩ ⟨⟨dk, e2, h1, h2⟩⟩ => Rw.ob h1 ?_
  refine h2.h.bd fun ⟨rx, e3⟩ ⟨⟨dx, e4, h3, kvs, q, h4, h5, h6⟩⟩ => Rw.ob h3 ?_
  simp only [h4]
  exact Rw.ob h5 h6⟩
theorem we_tin {ng : Bool} {i : Nat} {a : E} (h : We M a env (fun rk e1 => Fw e1 rk fun dk e2 => ∃ kvs q, slot e2 i = some (.dtt kvs) ∧ keyT dk = some q ∧ Q (.dat (.bool (ng != (dValT kvs q).isSome))) e2) X) : We M (.tin ng a i) env Q X := ⟨by
  simp only [evE]
  refine h.h.bd fun ⟨rk, e1⟩ ⟨⟨dk, e2, h1, kvs, q, h4, h5, h6⟩⟩ => Rw.ob h1 ?_
  simp only [h4]
  exact Rw.ob h5 h6⟩
theorem we_tix {i : Nat} {a : E} {k0 : List (D × D)} (h0 : slot env i = some (.dtt k0)) (h : We M a env (fun rk e1 => Fw e1 rk fun dk e2 => ∃ kvs q d, slot e2 i = some (.dtt kvs) ∧ keyT dk = some q ∧ dValT kvs q = some d ∧ Q (.dat d) e2) X) : We M (.tix i a) env Q X := ⟨by
  simp only [evE, h0]
  refine h.h.bd fun ⟨rk, e1⟩ ⟨⟨dk, e2, h1, kvs, q, d, h4, h5, h6, h7⟩⟩ => Rw.ob h1 ?_
  simp only [h4]
  exact Rw.ob h5 (Rw.ob h6 h7)⟩
theorem we_dct {a : E} (h : We M a env (fun ra e1 => Fw e1 ra fun d e2 => ∃ kvs, dctD d = some kvs ∧ Q (.td kvs) e2) X) : We M (.dct a) env Q X := ⟨by
  simp only [evE]
  exact h.h.bd fun ⟨ra, e1⟩ ⟨⟨d, e2, h1, kvs, h2, h3⟩⟩ => Rw.ob h1 (Rw.ob h2 h3)⟩
theorem we_tmi {o a : E} (h : We M o env (fun ro e1 => Fw e1 ro fun d e2 => tmiB d = true ∧ We M a e2 (fun ra e3 => Vv (vw e3 ra) fun dx => ∃ j, tmiD d dx = some j ∧ Q (.dat (.int (j : Nat))) e3) X) X) : We M (.tmi o a) env Q X := ⟨by
  simp only [evE]
  refine h.h.bd fun ⟨ro, e1⟩ ⟨⟨d, e2, h1, h2, h3⟩⟩ => Rw.ob h1 ?_
  simp only [h2, if_true]
  exact h3.h.bd fun ⟨ra, e3⟩ ⟨⟨dx, h4, j, h5, h6⟩⟩ => Rw.ob h4 (Rw.ob h5 h6)⟩
theorem we_fix {i : Nat} {a : E} {k0 : List (D × D)} (h0 : slot env i = some (.fdc k0)) (h : We M a env (fun rk e1 => Fw e1 rk fun dk e2 => ∃ kvs q d, slot e2 i = some (.fdc kvs) ∧ keyOf dk = some q ∧ dVal kvs q = some d ∧ Q (.dat d) e2) X) : We M (.tix i a) env Q X := ⟨by
  simp only [evE, h0]
  refine h.h.bd fun ⟨rk, e1⟩ ⟨⟨dk, e2, h1, kvs, q, d, h2, h3, h4, h5⟩⟩ => Rw.ob h1 ?_
  simp only [h2]
  exact Rw.ob h3 (Rw.ob h4 h5)⟩
theorem we_tget {i : Nat} {a x : E} {k0 : List (D × D)} (h0 : slot env i = some (.dtt k0)) (h : We M a env (fun rk e1 => Fw e1 rk fun dk e2 => We M x e2 (fun rx e3 => Fw e3 rx fun dx e4 => ∃ kvs q, slot e4 i = some (.dtt kvs) ∧ keyT dk = some q ∧ Q (.dat ((dValT kvs q).getD dx)) e4) X) X) : We M (.tget i a x) env Q X := ⟨by
  simp only [evE, h0]
  refine h.h.bd fun ⟨rk, e1⟩ ⟨⟨dk, e2, h1, h2⟩⟩ => Rw.ob h1 ?_
  refine h2.h.bd fun ⟨rx, e3⟩ ⟨⟨dx, e4, h3, kvs, q, h4, h5, h6⟩⟩ => Rw.ob h3 ?_
  simp only [h4]
  exact Rw.ob h5 h6⟩
theorem we_pop {i : Nat} {xs : List D} {d : D} (h0 : slot env i = some (.lst (xs ++ [d]))) (k : Sw env i (some (.lst xs)) fun e => Q (.dat d) e) : We M (.pop i) env Q X := ⟨by
  have h1 : (xs ++ [d]).getLast? = some d := by simp
  have h2 : (xs ++ [d]).dropLast = xs := by simp
  simp only [evE, h0, h1, h2]
  exact k.h⟩
/-- append -/
theorem we_app {i : Nat} {e : E} {x0 : List D} (h0 : slot env i = some (.lst x0)) (h : We M e env (fun r e1 => Fw e1 r fun d e2 => ∃ xs, slot e2 i = some (.lst xs) ∧ xs.length + 1 ≤ 16777216 ∧ Sw e2 i (some (.lst (xs ++ [d]))) fun e3 => Q (.dat .none) e3) X) : We M (.mut .append i (.cons e .nil)) env Q X := ⟨by
  simp only [evE, h0, evDs]
  refine Rw.bd (Q' := fun p : List D × En => ∃ d, p.1 = [d] ∧ ∃ xs, slot p.2 i = some (.lst xs) ∧ xs.length + 1 ≤ 16777216 ∧ Sw p.2 i (some (.lst (xs ++ [d]))) fun e3 => Q (.dat .none) e3) (h.h.bd fun ⟨r, e1⟩ ⟨⟨d, e2, h1, h2⟩⟩ => Rw.ob h1 ⟨d, rfl, h2⟩) ?_
  rintro ⟨ds, e1⟩ ⟨d, rfl, xs, h1, h2, h3⟩
  simp only [h1, mth_app h2]
  exact h3.h⟩
/-- extend -/
theorem we_ext {i : Nat} {e : E} {x0 : List D} (h0 : slot env i = some (.lst x0)) (h : We M e env (fun r e1 => Fw e1 r fun d e2 => ∃ xs ys, d = .list ys ∧ slot e2 i = some (.lst xs) ∧ xs.length + ys.length ≤ 16777216 ∧ Sw e2 i (some (.lst (xs ++ ys))) fun e3 => Q (.dat .none) e3) X) : We M (.mut .extend i (.cons e .nil)) env Q X := ⟨by
  simp only [evE, h0, evDs]
  refine Rw.bd (Q' := fun p : List D × En => ∃ d, p.1 = [d] ∧ ∃ xs ys, d = .list ys ∧ slot p.2 i = some (.lst xs) ∧ xs.length + ys.length ≤ 16777216 ∧ Sw p.2 i (some (.lst (xs ++ ys))) fun e3 => Q (.dat .none) e3) (h.h.bd fun ⟨r, e1⟩ ⟨⟨d, e2, h1, h2⟩⟩ => Rw.ob h1 ⟨d, rfl, h2⟩) ?_
  rintro ⟨ds, e1⟩ ⟨d, rfl, xs, ys, rfl, h1, h2, h3⟩
  simp only [h1, mthW, sizeOk_of h2, if_true]
  exact h3.h⟩
end
section
variable {M : Mach} {env : En} {X : XP}
theorem wds_nil {Q : List D → En → Prop} (k : Q [] env) : Wds M .nil env Q X := ⟨k⟩
theorem wds_cons {e : E} {r : Es} {Q : List D → En → Prop} (h : We M e env (fun re e1 => Fw e1 re fun d e2 => Wds M r e2 (fun ds e3 => Q (d :: ds) e3) X) X) : Wds M (.cons e r) env Q X := ⟨by
  simp only [evDs]
  exact h.h.bd fun ⟨ra, e1⟩ ⟨⟨d, e2, h1, h2⟩⟩ => Rw.ob h1 (h2.h.bd fun ⟨ds, e3⟩ h => h)⟩
theorem wa_nil {Q : List Rv → En → Prop} (k : Q [] env) : Wa M .nil env Q X := ⟨k⟩
theorem wa_cons {e : E} {r : Es} {Q : List Rv → En → Prop} (h : We M e env (fun re e1 => Wa M r e1 (fun rs e2 => Q (re :: rs) e2) X) X) : Wa M (.cons e r) env Q X := ⟨by
  simp only [evA]
  exact h.h.bd fun ⟨ra, e1⟩ h => h.h.bd fun ⟨ds, e3⟩ h => h⟩
theorem wo_no {Q : Option Int → En → Prop} (k : Q none env) : Wo M .no env Q X := ⟨k⟩
theorem wo_yes {e : E} {Q : Option Int → En → Prop} (h : We M e env (fun ra e1 => Vv (vw e1 ra) fun d => ∃ i, d = .int i ∧ Q (some i) e1) X) : Wo M (.yes e) env Q X := ⟨by
  simp only [evO]
  refine h.h.bd fun ⟨ra, e1⟩ ⟨⟨d, h1, i, h2, h3⟩⟩ => ?_
  subst h2
  simp only [h1]; exact h3⟩
theorem wt_val {e : E} {Q : Bool → En → Prop} (h : We M e env (fun ra e1 => Vv (vw e1 ra) fun d => Q (truD d) e1) X) : Wt M (.val e) env Q X := ⟨by
  simp only [evT]
  exact h.h.bd fun ⟨ra, e1⟩ ⟨⟨d, h1, h3⟩⟩ => Rw.ob h1 h3⟩
theorem wt_not {t : T} {Q : Bool → En → Prop} (h : Wt M t env (fun k e1 => Q (!k) e1) X) : Wt M (.not t) env Q X := ⟨by
  simp only [evT]
  exact h.h.bd fun ⟨ra, e1⟩ h => h⟩
theorem wt_and {t : Ts} {Q : Bool → En → Prop} (h : WtA M t env Q X) : Wt M (.and t) env Q X := ⟨by simp only [evT]; exact h.h⟩
theorem wt_or {t : Ts} {Q : Bool → En → Prop} (h : WtO M t env Q X) : Wt M (.or t) env Q X := ⟨by simp only [evT]; exact h.h⟩
theorem wta_1 {t : T} {Q : Bool → En → Prop} (h : Wt M t env Q X) : WtA M (.one t) env Q X := ⟨by simp only [evTA]; exact h.h⟩
theorem wto_1 {t : T} {Q : Bool → En → Prop} (h : Wt M t env Q X) : WtO M (.one t) env Q X := ⟨by simp only [evTO]; exact h.h⟩
theorem wta_c {t : T} {r : Ts} {Q : Bool → En → Prop} (h : Wt M t env (fun k e1 => Br k (WtA M r e1 Q X) (Q false e1)) X) : WtA M (.cons t r) env Q X := ⟨by
  simp only [evTA]
  refine h.h.bd fun ⟨k, e1⟩ h => ?_
  cases k with
  | false => exact h.f rfl
  | true => exact (h.t rfl).h⟩
theorem wto_c {t : T} {r : Ts} {Q : Bool → En → Prop} (h : Wt M t env (fun k e1 => Br k (Q true e1) (WtO M r e1 Q X)) X) : WtO M (.cons t r) env Q X := ⟨by
  simp only [evTO]
  refine h.h.bd fun ⟨k, e1⟩ h => ?_
  cases k with
  | false => exact (h.f rfl).h
  | true => exact h.t rfl⟩
theorem wot_no {Q : Bool → En → Prop} (k : Q true env) : Wot M .no env Q X := ⟨k⟩
theorem wot_yes {t : T} {Q : Bool → En → Prop} (h : Wt M t env Q X) : Wot M (.yes t) env Q X := ⟨by simp only [evOt]; exact h.h⟩
/-- what a list, tuple or text is gone through by -/
def seqOf : D → Option (List D)
  | .list xs => some xs
  | .tuple xs => some xs
  | .str z => some (z.cps.toList.map fun c => .str ⟨#[c]⟩)
  | _ => none
theorem wi_seq {e : E} {Q : List D → En → Prop} (h : We M e env (fun re e1 => Fw e1 re fun d e2 => ∃ xs, seqOf d = some xs ∧ Q xs e2) X) : Wi M (.seq e) env Q X := ⟨by
  simp only [evI]
  refine h.h.bd fun ⟨ra, e1⟩ ⟨⟨d, e2, h1, xs, h2, h3⟩⟩ => Rw.ob h1 ?_
  cases d <;> simp [seqOf] at h2 <;> subst h2 <;> exact h3⟩
theorem wi_rng {es : Es} {Q : List D → En → Prop} (h : Wds M es env (fun ds e1 => ∃ xs, rngD ds = some xs ∧ Q xs e1) X) : Wi M (.rng es) env Q X := ⟨by
  simp only [evI]
  exact h.h.bd fun ⟨ds, e1⟩ ⟨xs, h1, h2⟩ => Rw.ob h1 h2⟩
theorem wi_kys {i : Nat} {kvs : List (D × D)} {Q : List D → En → Prop} (h : slot env i = some (.dct kvs)) (k : Q (kvs.map (·.1)) (env.set i (some (.fdc kvs)))) : Wi M (.kys i) env Q X := ⟨by simp only [evI, h]; exact k⟩
theorem wi_kyf {i : Nat} {kvs : List (D × D)} {Q : List D → En → Prop} (h : slot env i = some (.fdc kvs)) (k : Q (kvs.map (·.1)) env) : Wi M (.kys i) env Q X := ⟨by simp only [evI, h]; exact k⟩
theorem wi_enu {e : E} {Q : List D → En → Prop} (h : We M e env (fun re e1 => Fw e1 re fun d e2 => ∃ xs, itemsD d = some xs ∧ Q (enuD xs) e2) X) : Wi M (.enu e) env Q X := ⟨by
  simp only [evI]
  refine h.h.bd fun ⟨ra, e1⟩ ⟨⟨d, e2, h1, xs, h2, h3⟩⟩ => Rw.ob h1 ?_
  cases d <;> simp [itemsD] at h2 <;> subst h2 <;> exact h3⟩
theorem wi_zip {a b : E} {Q : List D → En → Prop} (h : We M a env (fun re e1 => Fw e1 re fun x e2 => We M b e2 (fun rb e3 => Fw e3 rb fun y e4 => ∃ xs ys, ((x = .list xs ∧ y = .list ys) ∨ (x = .tuple xs ∧ y = .tuple ys)) ∧ Q (zipD xs ys) e4) X) X) : Wi M (.zip a b) env Q X := ⟨by
  simp only [evI]
  refine h.h.bd fun ⟨ra, e1⟩ ⟨⟨d, e2, h1, h2⟩⟩ => Rw.ob h1 (h2.h.bd fun ⟨rb, e3⟩ ⟨⟨y, e4, h3, xs, ys, h4, h5⟩⟩ => Rw.ob h3 ?_)
  rcases h4 with ⟨rfl, rfl⟩ | ⟨rfl, rfl⟩ <;> exact h5⟩
theorem wi_zpm {a b : E} {Q : List D → En → Prop} (h : We M a env (fun re e1 => Fw e1 re fun x e2 => We M b e2 (fun rb e3 => Fw e3 rb fun y e4 => ∃ xs ys, (x = .tuple xs ∧ y = .list ys) ∧ Q (zipD xs ys) e4) X) X) : Wi M (.zpm a b) env Q X := ⟨by
  simp only [evI]
  refine h.h.bd fun ⟨ra, e1⟩ ⟨⟨d, e2, h1, h2⟩⟩ => Rw.ob h1 (h2.h.bd fun ⟨rb, e3⟩ ⟨⟨y, e4, h3, xs, ys, h4, h5⟩⟩ => Rw.ob h3 ?_)
  rcases h4 with ⟨rfl, rfl⟩; exact h5⟩
end
end Rf
end

-- text RfWb
section
set_option Elab.async false
set_option linter.all false
set_option maxRecDepth 100000
set_option maxHeartbeats 4000000
/-! RfWb: data, calls, statements, loops: one rule each, forwards. -/
namespace Rf
open PySem L2
theorem br_t {k : Bool} {A B : Prop} (h : k = true) (a : A) : Br k A B := ⟨fun _ => a, fun h2 => by rw [h] at h2; cases h2⟩
theorem br_f {k : Bool} {A B : Prop} (h : k = false) (b : B) : Br k A B := ⟨fun h2 => by (rw [h] at h2; cases h2), fun _ => b⟩
theorem vv {o : Option D} {d : D} {K : D → Prop} (h : o = some d) (k : K d) : Vv o K := ⟨d, h, k⟩
/-! ### data -/
section
variable {K : Rv → Prop}
theorem wb_addI {i j : Int} (k : K (.dat (.int (i + j)))) : Wb .Add (some (.int i)) (some (.int j)) K := ⟨_, _, _, rfl, rfl, rfl, k⟩
theorem wb_subI {i j : Int} (k : K (.dat (.int (i - j)))) : Wb .Sub (some (.int i)) (some (.int j)) K := ⟨_, _, _, rfl, rfl, rfl, k⟩
theorem wb_mulI {i j : Int} (h : mulOk i j = true) (k : K (.dat (.int (i * j)))) : Wb .Mult (some (.int i)) (some (.int j)) K := ⟨_, _, _, rfl, rfl, by simp only [binD, h, if_true], k⟩
theorem wb_div {i j : Int} (h : 0 < j) (h2 : j < 1073741824) (k : K (.dat (.int (i / j)))) : Wb .FloorDiv (some (.int i)) (some (.int j)) K := ⟨_, _, _, rfl, rfl, (bin_div h h2).eq, k⟩
theorem wb_mod {i j : Int} (h : 0 < j) (k : K (.dat (.int (i % j)))) : Wb .Mod (some (.int i)) (some (.int j)) K := ⟨_, _, _, rfl, rfl, (bin_mod h).eq, k⟩
theorem wb_addS {x y : Str} (h : x.length + y.length ≤ 16777216) (k : K (.dat (.str (x ++ y)))) : Wb .Add (some (.str x)) (some (.str y)) K := ⟨_, _, _, rfl, rfl, by simp only [binD, sizeOk_of h, if_true], k⟩
theorem wb_addT {xs ys : List D} (h : xs.length + ys.length ≤ 16777216) (k : K (.dat (.tuple (xs ++ ys)))) : Wb .Add (some (.tuple xs)) (some (.tuple ys)) K := ⟨_, _, _, rfl, rfl, (bin_addT h).eq, k⟩
theorem wb_addL {xs ys : List D} (h : xs.length + ys.length ≤ 16777216) (k : K (.tl (xs ++ ys))) : Wb .Add (some (.list xs)) (some (.list ys)) K := ⟨_, _, _, rfl, rfl, (bin_addL h).eq, k⟩
theorem wb_mulL {xs : List D} {i : Int} (h0 : 0 ≤ i) (h1 : i ≤ 1000) (h : xs.length ≤ 1000) (k : K (.tl (List.replicate i.toNat xs).flatten)) : Wb .Mult (some (.list xs)) (some (.int i)) K := ⟨_, _, _, rfl, rfl, by simp only [binD, decide_eq_true h0, decide_eq_true h1, decide_eq_true h, Bool.and_self, if_true], k⟩
theorem wb_mulT {xs : List D} {i : Int} (h0 : 1 ≤ i) (h1 : i ≤ 1000) (h : xs.length ≤ 1000) (k : K (.dat (.tuple (List.replicate i.toNat xs).flatten))) : Wb .Mult (some (.tuple xs)) (some (.int i)) K := ⟨_, _, _, rfl, rfl, (bin_repT h0 h1 h).eq, k⟩
theorem wb_mulS {z : Str} {i : Int} (h0 : 0 ≤ i) (h1 : i ≤ 1000) (h : z.length ≤ 1000) (k : K (.dat (.str (Txt.mul z i)))) : Wb .Mult (some (.str z)) (some (.int i)) K := ⟨_, _, _, rfl, rfl, by simp only [binD, decide_eq_true h0, decide_eq_true h1, decide_eq_true h, Bool.and_self, if_true], k⟩
theorem wsl_T {xs : List D} {l u : Option Int} (k : K (.dat (.tuple (cutL xs l u)))) : Wsl (some (.tuple xs)) l u K := ⟨_, _, rfl, rfl, k⟩
theorem wsl_L {xs : List D} {l u : Option Int} (k : K (.tl (cutL xs l u))) : Wsl (some (.list xs)) l u K := ⟨_, _, rfl, rfl, k⟩
theorem wsl_S {z : Str} {l u : Option Int} (k : K (.dat (.str (cutS z l u)))) : Wsl (some (.str z)) l u K := ⟨_, _, rfl, rfl, k⟩
theorem cutL_map {α : Type} (f : α → D) (as : List α) (l u : Option Int) : cutL (as.map f) l u = (cutL as l u).map f := by simp [cutL, List.map_drop, List.map_take]
theorem wsl_Tm {α : Type} {f : α → D} {as : List α} {l u : Option Int} (k : K (.dat (.tuple ((cutL as l u).map f)))) : Wsl (some (.tuple (as.map f))) l u K := wsl_T (by rw [cutL_map]; exact k)
theorem wsl_Lm {α : Type} {f : α → D} {as : List α} {l u : Option Int} (k : K (.tl ((cutL as l u).map f))) : Wsl (some (.list (as.map f))) l u K := wsl_L (by rw [cutL_map]; exact k)
theorem wbl_of {b : Blt} {ds : List D} {r : Rv} (h : Bl b ds r) (k : K r) : Wbl b (some ds) K := ⟨_, _, rfl, h.eq, k⟩
theorem wbl_lenT {xs : List D} (k : K (.dat (.int xs.length))) : Wbl .len (some [.tuple xs]) K := ⟨_, _, rfl, rfl, k⟩
theorem wbl_lenL {xs : List D} (k : K (.dat (.int xs.length))) : Wbl .len (some [.list xs]) K := ⟨_, _, rfl, rfl, k⟩
theorem wbl_lenS {z : Str} (k : K (.dat (.int z.length))) : Wbl .len (some [.str z]) K := ⟨_, _, rfl, rfl, k⟩
theorem wbl_lenD {xs : List (D × D)} (k : K (.dat (.int xs.length))) : Wbl .len (some [.dict xs]) K := ⟨_, _, rfl, rfl, k⟩
theorem wbl_lenTm {α : Type} {f : α → D} {xs : List α} (k : K (.dat (.int xs.length))) : Wbl .len (some [.tuple (xs.map f)]) K := wbl_lenT (by rw [List.length_map]; exact k)
theorem wbl_lenLm {α : Type} {f : α → D} {xs : List α} (k : K (.dat (.int xs.length))) : Wbl .len (some [.list (xs.map f)]) K := wbl_lenL (by rw [List.length_map]; exact k)
theorem wbl_tupL {xs : List D} (k : K (.dat (.tuple xs))) : Wbl .tuple (some [.list xs]) K := ⟨_, _, rfl, rfl, k⟩
theorem wbl_tupT {xs : List D} (k : K (.dat (.tuple xs))) : Wbl .tuple (some [.tuple xs]) K := ⟨_, _, rfl, rfl, k⟩
theorem wbl_lisL {xs : List D} (k : K (.tl xs)) : Wbl .list (some [.list xs]) K := ⟨_, _, rfl, rfl, k⟩
theorem wbl_lisT {xs : List D} (k : K (.tl xs)) : Wbl .list (some [.tuple xs]) K := ⟨_, _, rfl, rfl, k⟩
theorem wbl_abs {i : Int} (k : K (.dat (.int (if i < 0 then -i else i)))) : Wbl .abs (some [.int i]) K := ⟨_, _, rfl, rfl, k⟩
theorem wbl_maxK {kvs : List (D × D)} {n : Int} {ns : List Int} (h : intsOf (kvs.map (·.1)) = some (n :: ns)) (k : K (.dat (.int (maxI n ns)))) : Wbl .max (some [.dict kvs]) K := ⟨_, _, rfl, by simp only [bltD, h], k⟩
theorem wbl_max2 {i j : Int} (k : K (.dat (.int (if j > i then j else i)))) : Wbl .max (some [.int i, .int j]) K := ⟨_, _, rfl, rfl, k⟩
theorem wbl_min3 {i j k : Int} {K : Rv → Prop} (h : K (.dat (.int (if j < i then (if k < j then k else j) else if k < i then k else i)))) : Wbl .min (some [.int i, .int j, .int k]) K := ⟨_, _, rfl, rfl, h⟩
theorem wbl_min2 {i j : Int} (k : K (.dat (.int (if j < i then j else i)))) : Wbl .min (some [.int i, .int j]) K := ⟨_, _, rfl, rfl, k⟩
theorem wbl_intB {b : Bool} (k : K (.dat (.int (if b then 1 else 0)))) : Wbl .int (some [.bool b]) K := ⟨_, _, rfl, rfl, k⟩
theorem wbl_intI {i : Int} (k : K (.dat (.int i))) : Wbl .int (some [.int i]) K := ⟨_, _, rfl, rfl, k⟩
theorem wbl_sum {ns : List Int} (k : K (.dat (.int ns.sum))) : Wbl .sum (some [.list (ns.map .int)]) K := wbl_of (blt_sum rfl) k
theorem bools_map : ∀ bs : List Bool, boolsOf (bs.map PyData.bool) = some bs
  | [] => rfl
  | b :: bs => by simp [boolsOf, bools_map bs]
theorem wbl_all {bs : List Bool} (k : K (.dat (.bool (bs.all id)))) : Wbl .all (some [.list (bs.map .bool)]) K := ⟨_, _, rfl, by simp only [bltD, bools_map, Option.map_some], k⟩
theorem wbl_any {bs : List Bool} (k : K (.dat (.bool (bs.any id)))) : Wbl .any (some [.list (bs.map .bool)]) K := ⟨_, _, rfl, by simp only [bltD, bools_map, Option.map_some], k⟩
theorem wbl_allm {α : Type} {g : α → Bool} {as : List α} (k : K (.dat (.bool (as.all g)))) : Wbl .all (some [.list (as.map fun a => .bool (g a))]) K := by
  have e : (as.map fun a => PyData.bool (g a)) = (as.map g).map .bool := by simp
  rw [e]
  exact wbl_all (by simpa using k)
theorem wbl_anym {α : Type} {g : α → Bool} {as : List α} (k : K (.dat (.bool (as.any g)))) : Wbl .any (some [.list (as.map fun a => .bool (g a))]) K := by
  have e : (as.map fun a => PyData.bool (g a)) = (as.map g).map .bool := by simp
  rw [e]
  exact wbl_any (by simpa using k)
theorem wmd_of {m : Mth} {z : Str} {ds : List D} {r : Rv} (h : mthD m z ds = some r) (k : K r) : Wmd m (some (.str z)) (some ds) K := ⟨_, _, _, rfl, rfl, h, k⟩
theorem wmd_sw {z y : Str} (k : K (.dat (.bool (Txt.startswith z y)))) : Wmd .startswith (some (.str z)) (some [.str y]) K := wmd_of rfl k
theorem wmd_ew {z y : Str} (k : K (.dat (.bool (Txt.endswith z y)))) : Wmd .endswith (some (.str z)) (some [.str y]) K := wmd_of rfl k
end
section
variable {K : Bool → Prop}
theorem wc_of {o : CmpOp} {x y : D} {r : Bool} (h : Cm o x y r) (k : K r) : Wc o (some x) (some y) K := ⟨_, _, _, rfl, rfl, h.eq, k⟩
theorem wc_eqI {i j : Int} (k : K (decide (i = j))) : Wc .Eq (some (.int i)) (some (.int j)) K := wc_of cm_eqI k
theorem wc_neI {i j : Int} (k : K (!decide (i = j))) : Wc .NotEq (some (.int i)) (some (.int j)) K := wc_of cm_neI k
theorem wc_lt {i j : Int} (k : K (decide (i < j))) : Wc .Lt (some (.int i)) (some (.int j)) K := wc_of ⟨rfl⟩ k
theorem wc_le {i j : Int} (k : K (decide (i ≤ j))) : Wc .LtE (some (.int i)) (some (.int j)) K := wc_of ⟨rfl⟩ k
theorem wc_gt {i j : Int} (k : K (decide (j < i))) : Wc .Gt (some (.int i)) (some (.int j)) K := wc_of ⟨rfl⟩ k
theorem wc_ge {i j : Int} (k : K (decide (j ≤ i))) : Wc .GtE (some (.int i)) (some (.int j)) K := wc_of ⟨rfl⟩ k
theorem wc_eqS {x y : Str} (k : K (decide (x = y))) : Wc .Eq (some (.str x)) (some (.str y)) K := wc_of cm_eqS (by rwa [show (x == y) = decide (x = y) from by by_cases h : x = y <;> simp [h]])
theorem cm_neS {x y : Str} : Cm .NotEq (.str x) (.str y) (!decide (x = y)) := ⟨by
  have : (PyData.str x).depth ≤ 120 := by simp [PyData.depth]
  have e : eqOk (.str x) (.str y) = true := eqOk_l this rfl rfl
  simp only [cmpD, e, if_true, PyData.eqv]
  by_cases h : x = y <;> simp [h]⟩
theorem wc_neS {x y : Str} (k : K (!decide (x = y))) : Wc .NotEq (some (.str x)) (some (.str y)) K := wc_of cm_neS k
theorem wc_inS {x z : Str} (k : K (inS z x)) : Wc .In (some (.str x)) (some (.str z)) K := wc_of ⟨rfl⟩ k
theorem wc_ltS {x y : Str} (k : K (ltCps x y)) : Wc .Lt (some (.str x)) (some (.str y)) K := wc_of ⟨rfl⟩ k
theorem wc_leS {x y : Str} (k : K (!ltCps y x)) : Wc .LtE (some (.str x)) (some (.str y)) K := wc_of ⟨rfl⟩ k
theorem wc_is {x : D} (k : K (isN x)) : Wc .Is (some x) (some .none) K := wc_of ⟨by cases x <;> rfl⟩ k
theorem wc_isnot {x : D} (k : K (!isN x)) : Wc .IsNot (some x) (some .none) K := wc_of ⟨by cases x <;> rfl⟩ k
theorem mem_strs {x : Str} : ∀ {ns : List Str}, (ns.map PyData.str).any (fun y => PyData.eqv y (.str x)) = decide (x ∈ ns)
  | [] => by simp
  | n :: ns => by
    rw [List.map_cons, List.any_cons, mem_strs (ns := ns)]
    by_cases h : n = x
    · simp [PyData.eqv, h]
    · have h2 : (n == x) = false := by simpa using h
      have h3 : ¬ x = n := fun e => h e.symm
      simp [PyData.eqv, h2, h3]
theorem memD_strs {x : Str} {ns : List Str} : memD (.str x) (ns.map .str) = some (decide (x ∈ ns)) := by
  have : min (PyData.depthAll (ns.map PyData.str)) (PyData.str x).depth ≤ depL := by
    have : (PyData.str x).depth ≤ 1 := by simp [PyData.depth]
    unfold depL; omega
  simp only [memD, decide_eq_true this, isDct, Bool.not_false, Bool.and_self, if_true, mem_strs]
theorem memD_ints {x : Int} {ns : List Int} : memD (.int x) (ns.map .int) = some (decide (x ∈ ns)) := by
  have : min (PyData.depthAll (ns.map PyData.int)) (PyData.int x).depth ≤ depL := by
    have : (PyData.int x).depth ≤ 1 := by simp [PyData.depth]
    unfold depL; omega
  simp only [memD, decide_eq_true this, isDct, Bool.not_false, Bool.and_self, if_true, mem_ints]
theorem wc_inSL {x : Str} {ns : List Str} (k : K (decide (x ∈ ns))) : Wc .In (some (.str x)) (some (.list (ns.map .str))) K := wc_of ⟨memD_strs⟩ k
theorem wc_inST {x : Str} {ns : List Str} (k : K (decide (x ∈ ns))) : Wc .In (some (.str x)) (some (.tuple (ns.map .str))) K := wc_of ⟨memD_strs⟩ k
theorem wc_inIL {x : Int} {ns : List Int} (k : K (decide (x ∈ ns))) : Wc .In (some (.int x)) (some (.list (ns.map .int))) K := wc_of ⟨memD_ints⟩ k
theorem wc_niSL {x : Str} {ns : List Str} (k : K (!decide (x ∈ ns))) : Wc .NotIn (some (.str x)) (some (.list (ns.map .str))) K := wc_of ⟨by simp only [cmpD, memD_strs, Option.map_some]⟩ k
theorem wc_niST {x : Str} {ns : List Str} (k : K (!decide (x ∈ ns))) : Wc .NotIn (some (.str x)) (some (.tuple (ns.map .str))) K := wc_of ⟨by simp only [cmpD, memD_strs, Option.map_some]⟩ k
/-- a display of texts, as one list -/
structure Strs (ds : List D) (ns : List Str) : Prop where
  of :: eq : ds = ns.map .str
theorem strs_nil : Strs [] [] := ⟨rfl⟩
theorem strs_cons {z : Str} {ds : List D} {ns : List Str} (h : Strs ds ns) : Strs (.str z :: ds) (z :: ns) := ⟨by rw [h.eq]; rfl⟩
theorem wc_inSTl {x : Str} {ds : List D} {ns : List Str} (h : Strs ds ns) (k : K (decide (x ∈ ns))) : Wc .In (some (.str x)) (some (.tuple ds)) K := by rw [h.eq]; exact wc_inST k
theorem wc_niSTl {x : Str} {ds : List D} {ns : List Str} (h : Strs ds ns) (k : K (!decide (x ∈ ns))) : Wc .NotIn (some (.str x)) (some (.tuple ds)) K := by rw [h.eq]; exact wc_niST k
theorem wc_inSLl {x : Str} {ds : List D} {ns : List Str} (h : Strs ds ns) (k : K (decide (x ∈ ns))) : Wc .In (some (.str x)) (some (.list ds)) K := by rw [h.eq]; exact wc_inSL k
theorem wc_eq0 {xs : List D} (k : K xs.isEmpty) : Wc .Eq (some (.tuple xs)) (some (.tuple [])) K := by
  cases xs with
  | nil => exact wc_of (r := true) ⟨by kernel_rfl⟩ k
  | cons x xs => exact wc_of cm_eq_nil k
theorem wc_ne0 {xs : List D} (k : K (!xs.isEmpty)) : Wc .NotEq (some (.tuple xs)) (some (.tuple [])) K := by
  cases xs with
  | nil => exact wc_of (r := false) ⟨by kernel_rfl⟩ k
  | cons x xs =>
    refine wc_of (r := true) ⟨?_⟩ k
    have : eqOk (.tuple (x :: xs)) (.tuple []) = true := by
      unfold eqOk
      rw [decide_eq_true (show min (PyData.tuple (x :: xs)).depth (PyData.tuple []).depth ≤ depL by simp only [PyData.depth, PyData.depthAll]; unfold depL; omega)]; rfl
    simp only [cmpD, this, if_true, PyData.eqv, PyData.eqvAll]; rfl
end
section
variable {K : D → Prop}
theorem wx_of {x y d : D} (h : idxD x y = some d) (k : K d) : Wx (some x) (some y) K := ⟨_, _, _, rfl, rfl, h, k⟩
theorem wx_T {xs : List D} {i : Int} (h0 : 0 ≤ i) (h : i.toNat < xs.length) (k : K xs[i.toNat]) : Wx (some (.tuple xs)) (some (.int i)) K := wx_of (idx_T h0 (List.getElem?_eq_getElem h)) k
theorem wx_L {xs : List D} {i : Int} (h0 : 0 ≤ i) (h : i.toNat < xs.length) (k : K xs[i.toNat]) : Wx (some (.list xs)) (some (.int i)) K := wx_of (idx_L h0 (List.getElem?_eq_getElem h)) k
theorem wx_Tm {α : Type} {f : α → D} {xs : List α} {i : Int} (h0 : 0 ≤ i) (h : i.toNat < xs.length) (k : K (f xs[i.toNat])) : Wx (some (.tuple (xs.map f))) (some (.int i)) K := wx_T h0 (by simpa using h) (by simpa using k)
theorem wx_Lm {α : Type} {f : α → D} {xs : List α} {i : Int} (h0 : 0 ≤ i) (h : i.toNat < xs.length) (k : K (f xs[i.toNat])) : Wx (some (.list (xs.map f))) (some (.int i)) K := wx_L h0 (by simpa using h) (by simpa using k)
end
/-! ### calls -/
def Mc (G : Pg) (k : Nat) (ss : List Sv) : Mach := { call := callF G k, pin := pinsOf 0 ss, gl := G.gl, fuel := G.fuel }
structure CallS (G : Pg) (k f : Nat) (ss : List Sv) (Q : Sv → List Sv → Prop) (X : Nat → Option D → List Sv → Prop) : Prop where
  of :: h : match callF G k f ss with
    | .ok s os => Q s os
    | .exc c p os => X c p os
    | .no => False
theorem callS_ok {G : Pg} {k f : Nat} {ss os : List Sv} {s : Sv} {Q : Sv → List Sv → Prop} {X : Nat → Option D → List Sv → Prop} (h : callF G k f ss = .ok s os) (q : Q s os) : CallS G k f ss Q X := ⟨by rw [h]; exact q⟩
theorem callS_ex {G : Pg} {k f c : Nat} {p : Option D} {ss os : List Sv} {Q : Sv → List Sv → Prop} {X : Nat → Option D → List Sv → Prop} (h : callF G k f ss = .exc c p os) (q : X c p os) : CallS G k f ss Q X := ⟨by rw [h]; exact q⟩
theorem callS_eq {G : Pg} {k f : Nat} {ss os : List Sv} {s : Sv} (h : CallS G k f ss (fun s' os' => s' = s ∧ os' = os) (fun _ _ _ => False)) : callF G k f ss = .ok s os := by
  have := h.h
  cases hc : callF G k f ss with
  | ok s' os' => rw [hc] at this; simp only at this; rw [this.1, this.2]
  | exc c p os => rw [hc] at this; exact this.elim
  | no => rw [hc] at this; exact this.elim
theorem callS_exq {G : Pg} {k f : Nat} {ss os : List Sv} {c : Nat} {p : Option D} (h : CallS G k f ss (fun _ _ => False) (fun c' p' os' => c' = c ∧ p' = p ∧ os' = os)) : callF G k f ss = .exc c p os := by
  have := h.h
  cases hc : callF G k f ss with
  | ok s' os' => rw [hc] at this; exact this.elim
  | exc c p os => rw [hc] at this; simp only at this; rw [this.1, this.2.1, this.2.2]
  | no => rw [hc] at this; exact this.elim
theorem callS_cast {G : Pg} {k f : Nat} {ss ss' : List Sv} {Q : Sv → List Sv → Prop} {X : Nat → Option D → List Sv → Prop} (e : ss = ss') (h : CallS G k f ss' Q X) : CallS G k f ss Q X := e ▸ h
/-- arguments: places, what is handed over -/
structure Nrm (env : En) (rs : List Rv) (ns : List (Option Nat)) (ss : List Sv) : Prop where
  of ::
  h1 : argsS env (rs.map (norm env)) = some ss
  h2 : ∀ outs : List Sv, ∀ e : En, backS (rs.map (norm env)) outs e = (ns.zip outs).foldl (fun e p => match p.1 with | some i => e.set i (some p.2) | none => e) e
  h3 : places (rs.map (norm env)) = ns.filterMap id
theorem nrm_nil {env : En} : Nrm env [] [] [] := ⟨rfl, fun outs e => by cases outs <;> simp [backS], rfl⟩
theorem backS_nil (rs : List Rv) (e : En) : backS rs [] e = e := by cases rs with
  | nil => rfl
  | cons r rs => cases r <;> rfl
theorem nrm_dat {env : En} {rs : List Rv} {ns : List (Option Nat)} {ss : List Sv} {d : D} (h : Nrm env rs ns ss) : Nrm env (.dat d :: rs) (none :: ns) (.dat d :: ss) := ⟨by
    simp only [List.map_cons, norm, argsS, argS, h.h1, Option.bind_some, Option.map_some], fun outs e => by
    cases outs with
    | nil => rw [backS_nil]; rfl
    | cons o os =>
      simp only [List.map_cons, norm, backS, h.h2]; rfl, by
    simp only [List.map_cons, norm, places, h.h3]; rfl⟩
theorem nrm_tl {env : En} {rs : List Rv} {ns : List (Option Nat)} {ss : List Sv} {d : List D} (h : Nrm env rs ns ss) : Nrm env (.tl d :: rs) (none :: ns) (.dat (.list d) :: ss) := ⟨by
    simp only [List.map_cons, norm, argsS, argS, h.h1, Option.bind_some, Option.map_some], fun outs e => by
    cases outs with
    | nil => rw [backS_nil]; rfl
    | cons o os =>
      simp only [List.map_cons, norm, backS, h.h2]; rfl, by
    simp only [List.map_cons, norm, places, h.h3]; rfl⟩
theorem nrm_plcd {env : En} {rs : List Rv} {ns : List (Option Nat)} {ss : List Sv} {i : Nat} {d : D} (hs : slot env i = some (.dat d)) (h : Nrm env rs ns ss) : Nrm env (.plc i :: rs) (none :: ns) (.dat d :: ss) := ⟨by
    simp only [List.map_cons, norm, hs, argsS, argS, h.h1, Option.bind_some, Option.map_some], fun outs e => by
    cases outs with
    | nil => rw [backS_nil]; rfl
    | cons o os =>
      simp only [List.map_cons, norm, hs, backS, h.h2]; rfl, by
    simp only [List.map_cons, norm, hs, places, h.h3]; rfl⟩
theorem nrm_plc {env : En} {rs : List Rv} {ns : List (Option Nat)} {ss : List Sv} {i : Nat} {d : List D} (hs : slot env i = some (.lst d)) (h : Nrm env rs ns ss) : Nrm env (.plc i :: rs) (some i :: ns) (.lst d :: ss) := ⟨by
    simp only [List.map_cons, norm, hs, argsS, argS, h.h1, Option.bind_some, Option.map_some], fun outs e => by
    cases outs with
    | nil => rw [backS_nil]; rfl
    | cons o os =>
      simp only [List.map_cons, norm, hs, backS, h.h2]; rfl, by
    simp only [List.map_cons, norm, hs, places, h.h3]; rfl⟩
theorem nrm_plk {env : En} {rs : List Rv} {ns : List (Option Nat)} {ss : List Sv} {i : Nat} {d : List (D × D)} (hs : slot env i = some (.dct d)) (h : Nrm env rs ns ss) : Nrm env (.plc i :: rs) (some i :: ns) (.dct d :: ss) := ⟨by
    simp only [List.map_cons, norm, hs, argsS, argS, h.h1, Option.bind_some, Option.map_some], fun outs e => by
    cases outs with
    | nil => rw [backS_nil]; rfl
    | cons o os =>
      simp only [List.map_cons, norm, hs, backS, h.h2]; rfl, by
    simp only [List.map_cons, norm, hs, places, h.h3]; rfl⟩
theorem nrm_plt {env : En} {rs : List Rv} {ns : List (Option Nat)} {ss : List Sv} {i : Nat} {d : List (D × D)} (hs : slot env i = some (.dtt d)) (h : Nrm env rs ns ss) : Nrm env (.plc i :: rs) (some i :: ns) (.dtt d :: ss) := ⟨by
    simp only [List.map_cons, norm, hs, argsS, argS, h.h1, Option.bind_some, Option.map_some], fun outs e => by
    cases outs with
    | nil => rw [backS_nil]; rfl
    | cons o os =>
      simp only [List.map_cons, norm, hs, backS, h.h2]; rfl, by
    simp only [List.map_cons, norm, hs, places, h.h3]; rfl⟩
/-- what the arguments' places hold behind a call -/
structure Bck (ns : List (Option Nat)) (outs : List Sv) (env : En) (K : En → Prop) : Prop where
  of :: h : K ((ns.zip outs).foldl (fun e p => match p.1 with | some i => e.set i (some p.2) | none => e) env)
theorem bck_nil {outs : List Sv} {env : En} {K : En → Prop} (k : K env) : Bck [] outs env K := ⟨by simpa using k⟩
theorem bck_no {ns : List (Option Nat)} {o : Sv} {outs : List Sv} {env : En} {K : En → Prop} (h : Bck ns outs env K) : Bck (none :: ns) (o :: outs) env K := ⟨h.h⟩
theorem bck_some {ns : List (Option Nat)} {i : Nat} {o : Sv} {outs : List Sv} {env e' : En} {K : En → Prop} (hs : SetL env i (some o) e') (h : Bck ns outs e' K) : Bck (some i :: ns) (o :: outs) env K := ⟨by
  have := h.h
  rw [← hs.eq] at this
  exact this⟩
def rvOf : Sv → Rv
  | .dat d => .dat d
  | .lst d => .tl d
  | .dct d => .td d
  | .dtt d => .tt d
  | .fdc d => .tt d
theorem nofd {G : Pg} {k f : Nat} {ss os : List Sv} {kvs : List (D × D)} : callF G k f ss ≠ .ok (.fdc kvs) os := by
  intro h
  cases k with
  | zero => cases h
  | succ k =>
    unfold callF at h
    split at h
    · cases h
    · split at h
      · split at h
        · split at h <;> cases h
        · split at h
          · cases h
          · rename_i hfd
            split at h
            · cases h; exact hfd rfl
            · cases h
        · split at h <;> cases h
        · cases h
      · cases h
structure WcR (G : Pg) (k f : Nat) (rs : List Rv) (env : En) (Q : Rv → En → Prop) (X : XP) : Prop where
  of :: h : ∃ ns ss, Nrm env rs ns ss ∧ nodupB (ns.filterMap id) = true ∧ CallS G k f ss (fun s outs => Bck ns outs env fun e2 => Q (rvOf s) e2) (fun c p outs => Bck ns outs env fun e2 => X c p e2)
theorem wcr {G : Pg} {k f : Nat} {rs : List Rv} {env : En} {Q : Rv → En → Prop} {X : XP} {ns : List (Option Nat)} {ss : List Sv} (h1 : Nrm env rs ns ss) (h2 : nodupB (ns.filterMap id) = true) (h3 : CallS G k f ss (fun s outs => Bck ns outs env fun e2 => Q (rvOf s) e2) (fun c p outs => Bck ns outs env fun e2 => X c p e2)) : WcR G k f rs env Q X := ⟨ns, ss, h1, h2, h3⟩
theorem we_call {G : Pg} {k f : Nat} {p : List Sv} {es : Es} {env : En} {Q : Rv → En → Prop} {X : XP} (h : Wa (Mc G k p) es env (fun rs e1 => WcR G k f rs e1 Q X) X) : We (Mc G k p) (.app f es) env Q X := ⟨by
  simp only [evE]
  refine h.h.bd fun ⟨rs, e1⟩ ⟨⟨ns, ss, h1, h2, h3⟩⟩ => ?_
  have h4 := h3.h
  simp only [callR, callN, h1.h3, h2, if_true, h1.h1]
  simp only [show (Mc G k p).call = callF G k from rfl]
  cases hc : callF G k f ss with
  | ok s os =>
    rw [hc] at h4
    have h5 := h4.h
    rw [← h1.h2] at h5
    cases s with
    | fdc _ => exact absurd hc nofd
    | _ => exact h5
  | exc c p os =>
    rw [hc] at h4
    have h5 := h4.h
    rw [← h1.h2] at h5
    exact h5
  | no => rw [hc] at h4; exact h4.elim⟩
/-! ### statements -/
structure Ws1 (M : Mach) (s : S) (env : En) (Q : Fl → Prop) : Prop where
  of :: h : Q (exS M s env)
structure Ws (M : Mach) (s : Ss) (env : En) (Q : Fl → Prop) : Prop where
  of :: h : Q (exSs M s env)
/-- behind a statement comes the rest -/
def thn (M : Mach) (r : Ss) (Q : Fl → Prop) : Fl → Prop
  | .nx e => Ws M r e Q
  | g => Q g
theorem thn_nx {M : Mach} {r : Ss} {Q : Fl → Prop} {e : En} (h : Ws M r e Q) : thn M r Q (.nx e) := h
theorem thn_rt {M : Mach} {r : Ss} {Q : Fl → Prop} {e : En} {v : Sv} (h : Q (.rt v e)) : thn M r Q (.rt v e) := h
theorem thn_ex {M : Mach} {r : Ss} {Q : Fl → Prop} {e : En} {c : Nat} {p : Option D} (h : Q (.ex c p e)) : thn M r Q (.ex c p e) := h
theorem thn_bk {M : Mach} {r : Ss} {Q : Fl → Prop} {e : En} (h : Q (.bk e)) : thn M r Q (.bk e) := h
theorem thn_ct {M : Mach} {r : Ss} {Q : Fl → Prop} {e : En} (h : Q (.ct e)) : thn M r Q (.ct e) := h
abbrev fx (Q : Fl → Prop) : XP := fun c p e => Q (.ex c p e)
theorem Rw.fl {α : Type} {x : R α} {f : α → Fl} {Q' : α → Prop} {Q : Fl → Prop} (h : Rw x Q' (fx Q)) (hf : ∀ a, Q' a → Q (f a)) : Q (x.fl f) := by
  cases x with
  | ok a => exact hf a h
  | exc c p e => exact h
  | no => exact h.elim
theorem Rw.fo {α : Type} {o : Option α} {a : α} {f : α → Fl} {Q : Fl → Prop} (h : o = some a) (hf : Q (f a)) : Q ((R.opt o).fl f) := by subst h; exact hf
section
variable {M : Mach} {env : En} {Q : Fl → Prop}
theorem ws_nil (k : Q (.nx env)) : Ws M .nil env Q := ⟨k⟩
theorem ws_cons {s : S} {r : Ss} (h : Ws1 M s env (thn M r Q)) : Ws M (.cons s r) env Q := ⟨by
  have := h.h
  simp only [exSs]
  cases hs : exS M s env with
  | nx e => rw [hs] at this; exact this.h
  | rt v e => rw [hs] at this; exact this
  | bk e => rw [hs] at this; exact this
  | ct e => rw [hs] at this; exact this
  | ex c p e => rw [hs] at this; exact this
  | no => rw [hs] at this; exact this⟩
theorem s_pass (k : Q (.nx env)) : Ws1 M .pass env Q := ⟨k⟩
theorem s_doc {z : Str} (k : Q (.nx env)) : Ws1 M (.doc z) env Q := ⟨k⟩
theorem s_brk (k : Q (.bk env)) : Ws1 M .brk env Q := ⟨k⟩
theorem s_cnt (k : Q (.ct env)) : Ws1 M .cnt env Q := ⟨k⟩
theorem s_retN (k : Q (.rt (.dat .none) env)) : Ws1 M .retN env Q := ⟨k⟩
theorem s_rai {c : Nat} (k : Q (.ex c none env)) : Ws1 M (.rai c) env Q := ⟨k⟩
theorem s_rap {c : Nat} {e : E} (h : We M e env (fun r e1 => Fw e1 r fun d e2 => Q (.ex c (some d) e2)) (fx Q)) : Ws1 M (.rap c e) env Q := ⟨by
  simp only [exS]
  exact h.h.fl fun ⟨r, e1⟩ ⟨⟨d, e2, h1, h2⟩⟩ => Rw.fo h1 h2⟩
theorem s_asg {t : Tg} {e : E} (h : We M e env (fun r e1 => Asr M t r e1 fun e2 => Q (.nx e2)) (fx Q)) : Ws1 M (.asg t e) env Q := ⟨by
  simp only [exS]
  refine h.h.fl fun ⟨r, e1⟩ ⟨⟨e2, h1, h2⟩⟩ => ?_
  simp only [h1, Fl.opt_some]; exact h2⟩
theorem s_exp {e : E} (h : We M e env (fun r e1 => Q (.nx e1)) (fx Q)) : Ws1 M (.exp e) env Q := ⟨by
  simp only [exS]
  exact h.h.fl fun ⟨r, e1⟩ h => h⟩
structure Osw (M : Mach) (env : En) (r : Rv) (K : Sv → En → Prop) : Prop where
  of :: h : ∃ s e, outS M env r = some (s, e) ∧ K s e
theorem osw_dat {d : D} {K : Sv → En → Prop} (k : K (.dat d) env) : Osw M env (.dat d) K := ⟨_, _, rfl, k⟩
theorem osw_tl {d : List D} {K : Sv → En → Prop} (k : K (.lst d) env) : Osw M env (.tl d) K := ⟨_, _, rfl, k⟩
theorem osw_td {d : List (D × D)} {K : Sv → En → Prop} (k : K (.dct d) env) : Osw M env (.td d) K := ⟨_, _, rfl, k⟩
theorem osw_tt {d : List (D × D)} {K : Sv → En → Prop} (k : K (.dtt d) env) : Osw M env (.tt d) K := ⟨_, _, rfl, k⟩
theorem osw_plc {i : Nat} {s : Sv} {K : Sv → En → Prop} (hp : M.pin.contains i = false) (hs : slot env i = some s) (k : Sw env i none fun e => K s e) : Osw M env (.plc i) K := ⟨_, _, by simp only [outS, hp, hs]; rfl, k.h⟩
theorem s_ret {e : E} (h : We M e env (fun r e1 => Osw M e1 r fun s e2 => Q (.rt s e2)) (fx Q)) : Ws1 M (.ret e) env Q := ⟨by
  simp only [exS]
  refine h.h.fl fun ⟨r, e1⟩ ⟨⟨s, e2, h1, h2⟩⟩ => ?_
  simp only [h1]; exact h2⟩
theorem s_ite {c : T} {a b : Ss} (h : Wt M c env (fun k e1 => Br k (Ws M a e1 Q) (Ws M b e1 Q)) (fx Q)) : Ws1 M (.ite c a b) env Q := ⟨by
  simp only [exS]
  refine h.h.fl fun ⟨k, e1⟩ h => ?_
  cases k with
  | true => exact (h.t rfl).h
  | false => exact (h.f rfl).h⟩
theorem s_aug {i : Nat} {o : Operator} {e : E} {a : Int} (h0 : slot env i = some (.dat (.int a))) (h : We M e env (fun r e1 => Vv (vw e1 r) fun d => ∃ b, d = .int b ∧ ∃ r, ((o = .Add ∧ r = a + b) ∨ (o = .Sub ∧ r = a - b)) ∧ Sto M e1 i (.dat (.int r)) fun e2 => Q (.nx e2)) (fx Q)) : Ws1 M (.aug i o e) env Q := ⟨by
  simp only [exS, h0]
  refine h.h.fl fun ⟨r, e1⟩ ⟨⟨d, h1, b, h2, v, h3, ⟨e2, h4, h5⟩⟩⟩ => Rw.fo h1 ?_
  subst h2
  rcases h3 with ⟨rfl, rfl⟩ | ⟨rfl, rfl⟩ <;> exact Rw.fo h4 h5⟩
structure Ownw (env : En) (rs : List Rv) (K : List Sv → En → Prop) : Prop where
  of :: h : ∃ ss e, ownAll env rs = some (ss, e) ∧ K ss e
structure Stow (M : Mach) (is : List Nat) (ss : List Sv) (env : En) (K : En → Prop) : Prop where
  of :: h : ∃ e, storeAll M is ss env = some e ∧ K e
theorem own_nil {K : List Sv → En → Prop} (k : K [] env) : Ownw env [] K := ⟨_, _, rfl, k⟩
theorem own_d {d : D} {rs : List Rv} {K : List Sv → En → Prop} (h : Ownw env rs fun ss e => K (.dat d :: ss) e) : Ownw env (.dat d :: rs) K := ⟨by
  obtain ⟨ss, e, h1, h2⟩ := h.h
  exact ⟨_, _, by simp only [ownAll, own1, h1, Option.bind_some, Option.map_some], h2⟩⟩
theorem own_l {d : List D} {rs : List Rv} {K : List Sv → En → Prop} (h : Ownw env rs fun ss e => K (.lst d :: ss) e) : Ownw env (.tl d :: rs) K := ⟨by
  obtain ⟨ss, e, h1, h2⟩ := h.h
  exact ⟨_, _, by simp only [ownAll, own1, h1, Option.bind_some, Option.map_some], h2⟩⟩
theorem own_k {d : List (D × D)} {rs : List Rv} {K : List Sv → En → Prop} (h : Ownw env rs fun ss e => K (.dct d :: ss) e) : Ownw env (.td d :: rs) K := ⟨by
  obtain ⟨ss, e, h1, h2⟩ := h.h
  exact ⟨_, _, by simp only [ownAll, own1, h1, Option.bind_some, Option.map_some], h2⟩⟩
theorem own_t {d : List (D × D)} {rs : List Rv} {K : List Sv → En → Prop} (h : Ownw env rs fun ss e => K (.dtt d :: ss) e) : Ownw env (.tt d :: rs) K := ⟨by
  obtain ⟨ss, e, h1, h2⟩ := h.h
  exact ⟨_, _, by simp only [ownAll, own1, h1, Option.bind_some, Option.map_some], h2⟩⟩
theorem own_p {i : Nat} {rs : List Rv} {K : List Sv → En → Prop} (h : Fw env (.plc i) fun d e1 => Ownw e1 rs fun ss e => K (.dat d :: ss) e) : Ownw env (.plc i :: rs) K := ⟨by
  obtain ⟨d, e1, h0, ⟨ss, e, h1, h2⟩⟩ := h.h
  exact ⟨_, _, by simp only [ownAll, own1, h0, h1, Option.bind_some, Option.map_some], h2⟩⟩
theorem stow_nil {K : En → Prop} (k : K env) : Stow M [] [] env K := ⟨_, rfl, k⟩
theorem stow_cons {i : Nat} {is : List Nat} {s : Sv} {ss : List Sv} {K : En → Prop} (h : Sto M env i s fun e1 => Stow M is ss e1 K) : Stow M (i :: is) (s :: ss) env K := ⟨by
  obtain ⟨e1, h1, ⟨e2, h2, h3⟩⟩ := h.h
  exact ⟨e2, by simp only [storeAll, h1, Option.bind_some, h2], h3⟩⟩
theorem s_par {is : List Nat} {es : Es} (h : Wa M es env (fun rs e1 => Ownw e1 rs fun ss e2 => Stow M is ss e2 fun e3 => Q (.nx e3)) (fx Q)) : Ws1 M (.par is es) env Q := ⟨by
  simp only [exS]
  exact h.h.fl fun ⟨r, e1⟩ ⟨⟨ss, e2, h1, ⟨e3, h2, h3⟩⟩⟩ => Rw.fo h1 (Rw.fo h2 h3)⟩
theorem s_set {x i v : E} (h : We M v env (fun rv e1 => Fw e1 rv fun d e2 => We M x e2 (fun rx e3 => We M i e3 (fun ri e4 => Fw e4 ri fun k e5 => ∃ j s s', rx = .plc j ∧ slot e5 j = some s ∧ setW s k d = some s' ∧ Sw e5 j (some s') fun e6 => Q (.nx e6)) (fx Q)) (fx Q)) (fx Q)) : Ws1 M (.set x i v) env Q := ⟨by
  simp only [exS]
  refine h.h.fl fun ⟨rv, e1⟩ ⟨⟨d, e2, h1, h2⟩⟩ => Rw.fo h1 (h2.h.fl fun ⟨rx, e3⟩ h3 => h3.h.fl fun ⟨ri, e4⟩ ⟨⟨k, e5, h4, j, s, s', h5, h6, h7, h8⟩⟩ => Rw.fo h4 ?_)
  simp only at h5
  subst h5
  simp only [h6, h7]
  exact h8.h⟩
theorem s_sls {x lo hi v : E} (h : We M v env (fun rv e1 => Fw e1 rv fun d e2 => We M x e2 (fun rx e3 => We M lo e3 (fun ra e4 => Vv (vw e4 ra) fun da => ∃ a, da = .int a ∧ We M hi e4 (fun rc e5 => Vv (vw e5 rc) fun dc => ∃ c, dc = .int c ∧ ∃ j s s', rx = .plc j ∧ slot e5 j = some s ∧ slsW s a c d = some s' ∧ Sw e5 j (some s') fun e6 => Q (.nx e6)) (fx Q)) (fx Q)) (fx Q)) (fx Q)) : Ws1 M (.sls x lo hi v) env Q := ⟨by
  simp only [exS]
  refine h.h.fl fun ⟨rv, e1⟩ ⟨⟨d, e2, h1, h2⟩⟩ => Rw.fo h1 (h2.h.fl fun ⟨rx, e3⟩ h3 => h3.h.fl fun ⟨ra, e4⟩ ⟨⟨da, h4, a, h5, h6⟩⟩ => Rw.fo (a := a) (by show (vw e4 ra).bind intD = some a; rw [h4, h5]; rfl) (h6.h.fl fun ⟨rc, e5⟩ ⟨⟨dc, h7, c, h8, j, s, s', h9, h10, h11, h12⟩⟩ => Rw.fo (a := c) (by show (vw e5 rc).bind intD = some c; rw [h7, h8]; rfl) ?_))
  simp only at h9
  subst h9
  simp only [h10, h11]
  exact h12.h⟩
theorem s_as2 {i j : Nat} {e : E} (h : We M e env (fun r e1 => ∃ d, r = .dat d ∧ Sto M e1 i (.dat d) fun e2 => Sto M e2 j (.dat d) fun e3 => Q (.nx e3)) (fx Q)) : Ws1 M (.as2 i j e) env Q := ⟨by
  simp only [exS]
  refine h.h.fl fun ⟨r, e1⟩ ⟨d, h1, ⟨e2, h2, ⟨e3, h3, h4⟩⟩⟩ => ?_
  simp only at h1
  subst h1
  simp only [h2, h3, Fl.opt_some]; exact h4⟩
/-- what comes behind a try -/
def cat (M : Mach) (hs : List (Nat × Nat × D)) (Q : Fl → Prop) : Fl → Prop
  | .ex c p e => match hFind hs c with
    | some (i, v) => Sto M e i (.dat v) fun e2 => Q (.nx e2)
    | none => Q (.ex c p e)
  | g => Q g
theorem cat_nx {hs : List (Nat × Nat × D)} (k : Q (.nx env)) : cat M hs Q (.nx env) := k
theorem cat_rt {hs : List (Nat × Nat × D)} {v : Sv} (k : Q (.rt v env)) : cat M hs Q (.rt v env) := k
theorem cat_ct {hs : List (Nat × Nat × D)} (k : Q (.ct env)) : cat M hs Q (.ct env) := k
theorem cat_bk {hs : List (Nat × Nat × D)} (k : Q (.bk env)) : cat M hs Q (.bk env) := k
theorem cat_ex {hs : List (Nat × Nat × D)} {c i : Nat} {p : Option D} {v : D} (h : hFind hs c = some (i, v)) (k : Sto M env i (.dat v) fun e2 => Q (.nx e2)) : cat M hs Q (.ex c p env) := by
  simp only [cat, h]; exact k
theorem cat_exN {hs : List (Nat × Nat × D)} {c : Nat} {p : Option D} (h : hFind hs c = none) (k : Q (.ex c p env)) : cat M hs Q (.ex c p env) := by
  simp only [cat, h]; exact k
theorem s_tri {b : Ss} {hs : List (Nat × Nat × D)} (h : Ws M b env (cat M hs Q)) : Ws1 M (.tri b hs) env Q := ⟨by
  have := h.h
  simp only [exS]
  cases hb : exSs M b env with
  | ex c p e =>
    rw [hb] at this
    simp only [cat] at this
    simp only [Fl.caught]
    cases hf : hFind hs c with
    | none => rw [hf] at this; exact this
    | some iv =>
      rw [hf] at this
      obtain ⟨e2, h1, h2⟩ := this.h
      simp only [h1, Fl.opt_some]; exact h2
  | nx e => rw [hb] at this; exact this
  | rt v e => rw [hb] at this; exact this
  | bk e => rw [hb] at this; exact this
  | ct e => rw [hb] at this; exact this
  | no => rw [hb] at this; exact this⟩
def catA (M : Mach) (c n i : Nat) (v : Option Str) (Q : Fl → Prop) : Fl → Prop
  | .ex c' p e => if c' == c then ∃ d, p = some d ∧ (n == i) = false ∧ (Sto M e n (.dat .none) fun _ => True) ∧ Sto M e i (.dat (match v with | none => d | some z => .tuple [.str z, d])) fun e2 => Sw e2 n none fun e3 => Q (.nx e3) else Q (.ex c' p e)
  | g => Q g
theorem catA_nx {c n i : Nat} {v : Option Str} (k : Q (.nx env)) : catA M c n i v Q (.nx env) := k
theorem catA_rt {c n i : Nat} {v : Option Str} {s : Sv} (k : Q (.rt s env)) : catA M c n i v Q (.rt s env) := k
theorem catA_ex {c n i : Nat} {d : D} {v : Option Str} (h0 : (n == i) = false) (h1 : Sto M env n (.dat .none) fun _ => True) (k : Sto M env i (.dat (match v with | none => d | some z => .tuple [.str z, d])) fun e2 => Sw e2 n none fun e3 => Q (.nx e3)) : catA M c n i v Q (.ex c (some d) env) := by
  simp only [catA, beq_self_eq_true, if_true]
  exact ⟨d, rfl, h0, h1, k⟩
theorem s_tra {b : Ss} {c n i : Nat} {v : Option Str} (h : Ws M b env (catA M c n i v Q)) : Ws1 M (.tra b c n i v) env Q := ⟨by
  have := h.h
  simp only [exS]
  cases hb : exSs M b env with
  | ex c' p e =>
    rw [hb] at this
    simp only [catA] at this
    simp only
    by_cases hc : (c' == c) = true
    · simp only [hc, if_true] at this ⊢
      obtain ⟨d, rfl, h0, ⟨e1, h1, _⟩, ⟨e2, h2, h3⟩⟩ := this
      have h3 := h3.h
      cases v with
      | none =>
        simp only at h2
        simp only [h0, h1, h2]; exact h3
      | some z =>
        simp only at h2
        simp only [h0, h1, h2]; exact h3
    · simp only [hc] at this ⊢; exact this
  | nx e => rw [hb] at this; exact this
  | rt v e => rw [hb] at this; exact this
  | bk e => rw [hb] at this; exact this
  | ct e => rw [hb] at this; exact this
  | no => rw [hb] at this; exact this⟩
/-! ### loops -/
structure Wf (M : Mach) (t : Tg) (b : Ss) (xs : List D) (env : En) (Q : Fl → Prop) : Prop where
  of :: h : Q (forF M t (exSs M b) xs env)
theorem s_for {t : Tg} {it : Itr} {b : Ss} (h : Wi M it env (fun xs e1 => Wf M t b xs e1 Q) (fx Q)) : Ws1 M (.for t it b) env Q := ⟨by
  simp only [exS]
  exact h.h.fl fun ⟨xs, e1⟩ h => h.h⟩
/-- behind a turn -/
def trn (J : En → Prop) (Q : Fl → Prop) : Fl → Prop
  | .nx e => J e
  | .ct e => J e
  | .bk e => Q (.nx e)
  | g => Q g
theorem trn_nx {J : En → Prop} (k : J env) : trn J Q (.nx env) := k
theorem trn_ct {J : En → Prop} (k : J env) : trn J Q (.ct env) := k
theorem trn_bk {J : En → Prop} (k : Q (.nx env)) : trn J Q (.bk env) := k
theorem trn_rt {J : En → Prop} {v : Sv} (k : Q (.rt v env)) : trn J Q (.rt v env) := k
theorem trn_ex {J : En → Prop} {c : Nat} {p : Option D} (k : Q (.ex c p env)) : trn J Q (.ex c p env) := k
theorem trn_of {f : Fl} {J : En → Prop} {g : En → Fl} (h : trn J Q f) (hj : ∀ e, J e → Q (g e)) : Q (f.turn g) := by
  cases f with
  | nx e => exact hj e h
  | ct e => exact hj e h
  | bk e => exact h
  | rt v e => exact h
  | ex c p e => exact h
  | no => exact h
theorem wf_nil {t : Tg} {b : Ss} (k : Q (.nx env)) : Wf M t b [] env Q := ⟨k⟩
theorem wf_cons {t : Tg} {b : Ss} {x : D} {xs : List D} (h : Asd M t x env fun e1 => Ws M b e1 (trn (fun e2 => Wf M t b xs e2 Q) Q)) : Wf M t b (x :: xs) env Q := ⟨by
  obtain ⟨e1, h1, h2⟩ := h.h
  simp only [forF, h1, Fl.opt_some]
  exact trn_of h2.h fun e h => h.h⟩
theorem wf_inv {α : Type} {t : Tg} {b : Ss} {f : α → D} (I : List α → En → Prop) : ∀ (as pre : List α) {env : En}, I pre env →
    (∀ pre' a suf env, pre ++ as = pre' ++ a :: suf → I pre' env → Asd M t (f a) env fun e1 => Ws M b e1 (trn (I (pre' ++ [a])) Q)) → (∀ env, I (pre ++ as) env → Q (.nx env)) → Wf M t b (as.map f) env Q
  | [], pre, env, h0, hs, h1 => wf_nil (h1 env (by simpa using h0))
  | a :: as, pre, env, h0, hs, h1 => wf_cons (by
    obtain ⟨e1, g1, g2⟩ := (hs pre a as env rfl h0).h
    refine ⟨e1, g1, ⟨?_⟩⟩
    have := g2.h
    have hr : ∀ e, I (pre ++ [a]) e → Wf M t b (as.map f) e Q := fun e he => wf_inv I as (pre ++ [a]) he (fun pre' a' suf env hp => hs pre' a' suf env (by rw [← hp]; simp)) (fun env h => h1 env (by simpa using h))
    cases hb : exSs M b e1 with
    | nx e => rw [hb] at this; exact hr e this
    | ct e => rw [hb] at this; exact hr e this
    | bk e => rw [hb] at this; exact this
    | rt v e => rw [hb] at this; exact this
    | ex c p e => rw [hb] at this; exact this
    | no => rw [hb] at this; exact this)
structure Ww (M : Mach) (c : T) (b : Ss) (n : Nat) (env : En) (Q : Fl → Prop) : Prop where
  of :: h : Q (whileF (evT M c) (exSs M b) n env)
theorem s_whl {c : T} {b : Ss} (h : Ww M c b M.fuel env Q) : Ws1 M (.whl c b) env Q := ⟨by simp only [exS]; exact h.h⟩
theorem ww_inv {c : T} {b : Ss} (I : Nat → En → Prop) (hs : ∀ m env, I m env → Wt M c env (fun k e1 => Br k (Ws M b e1 (trn (fun e2 => ∃ m', m' < m ∧ I m' e2) Q)) (Q (.nx e1))) (fx Q)) : ∀ (n m : Nat) {env : En}, m < n → I m env → Ww M c b n env Q
  | 0, _, _, h, _ => by omega
  | n + 1, m, env, h, hi => ⟨by
    simp only [whileF]
    refine (hs m env hi).h.fl fun ⟨k, e1⟩ hb => ?_
    cases k with
    | false => exact hb.f rfl
    | true => exact trn_of (hb.t rfl).h fun e ⟨m', h1, h2⟩ => (ww_inv I hs n m' (by omega) h2).h⟩
end
/-! ### comprehensions -/
abbrev noX : XP := fun _ _ _ => False
structure Wcb (M : Mach) (e : E) (t : Tg) (c : Ot) (x : D) (w : En) (K : Option D → En → Prop) : Prop where
  of :: h : ∃ o e', cB M e t c x w = .ok (o, e') ∧ K o e'
theorem rw_no {α : Type} {x : R α} {Q : α → Prop} (h : Rw x Q noX) : ∃ a, x = .ok a ∧ Q a := by
  cases x with
  | ok a => exact ⟨a, rfl, h⟩
  | exc c p e => exact h.elim
  | no => exact h.elim
theorem wcb {M : Mach} {e : E} {t : Tg} {c : Ot} {x : D} {w : En} {K : Option D → En → Prop} (h : Asd M t x w fun e2 => Wot M c e2 (fun k e3 => Br k (We M e e3 (fun r e4 => Fw e4 r fun d e5 => K (some d) e5) noX) (K none e3)) noX) : Wcb M e t c x w K := ⟨by
  obtain ⟨e2, h1, h2⟩ := h.h
  obtain ⟨⟨k, e3⟩, h3, h4⟩ := rw_no h2.h
  simp only [cB, h1, R.opt_some, R.bind_ok, h3]
  cases k with
  | false => exact ⟨none, e3, rfl, h4.f rfl⟩
  | true =>
    obtain ⟨⟨r, e4⟩, h5, ⟨⟨d, e5, h6, h7⟩⟩⟩ := rw_no (h4.t rfl).h
    simp only [h5, R.bind_ok, h6, R.opt_some]
    exact ⟨some d, e5, rfl, h7⟩⟩
structure Wcp (M : Mach) (e : E) (t : Tg) (c : Ot) (own : List Nat) (xs : List D) (env : En) (K : List D → En → Prop) : Prop where
  of :: h : ∃ acc e6, loopC (fun x env => cB M e t c x (wipeE env own)) xs [] (wipeE env own) = .ok (acc, e6) ∧ K acc (backE e6 env own)
theorem we_cpr {M : Mach} {e : E} {t : Tg} {it : Itr} {c : Ot} {own : List Nat} {env : En} {Q : Rv → En → Prop} {X : XP} (h : Wi M it env (fun xs e1 => Wcp M e t c own xs e1 fun ds e2 => Q (.tl ds) e2) X) : We M (.cpr e t it c own) env Q X := ⟨by
  simp only [evE]
  refine h.h.bd fun ⟨xs, e1⟩ ⟨⟨acc, e6, h1, h2⟩⟩ => ?_
  show Rw (R.bind (loopC (fun x env => cB M e t c x (wipeE env own)) xs [] (wipeE e1 own)) _) _ _
  rw [h1, R.bind_ok]
  exact h2⟩
/-- a pure comprehension with a test -/
theorem wcp_flt {α : Type} {M : Mach} {e : E} {t : Tg} {c : Ot} {own : List Nat} {env : En} {K : List D → En → Prop} {as : List α} {f : α → D} (g : α → Option D) (hn : as.length ≤ 16777216)
    (hs : ∀ a ∈ as, Wcb M e t c (f a) (wipeE env own) fun o e' => o = g a ∧ wipeE e' own = wipeE env own) (k : K (as.filterMap g) env) : Wcp M e t c own (as.map f) env K := ⟨by
  obtain ⟨acc', e6, h1, h2, h3⟩ := loopC_inv (own := own) (f := cB M e t c) (fun i acc w => w = wipeE env own ∧ acc = (as.take i).filterMap g) (as.map f) 0 [] (wipeE env own) ⟨by
      apply List.ext_getElem?; intro j; simp only [wipe_get, wipe_len]; split <;> simp_all, by simp⟩ (by simp) (by simp; omega) (by
      intro j x acc w hx ⟨hw, ha⟩
      rw [List.getElem?_map] at hx
      obtain ⟨a, hy, rfl⟩ := Option.map_eq_some_iff.1 hx
      obtain ⟨o, e', h1, h2, h3⟩ := (hs a (List.mem_of_getElem? hy)).h
      refine ⟨g a, e', ?_, h3, ?_⟩
      · rw [hw, h1, h2]
      simp only [Nat.zero_add] at ha ⊢
      rw [List.take_add_one, hy, List.filterMap_append, ha]
      cases h : g a <;> simp [h])
  have h4 := back_of (e1 := env) h2 (fun _ _ => rfl)
  have h5 : acc' = as.filterMap g := by
    rw [h3]; simp [List.take_of_length_le]
  exact ⟨acc', e6, h1, by rw [h4, h5]; exact k⟩⟩
theorem wcp_map {α : Type} {M : Mach} {e : E} {t : Tg} {c : Ot} {own : List Nat} {env : En} {K : List D → En → Prop} {as : List α} {f : α → D} (g : α → D) (hn : as.length ≤ 16777216)
    (hs : ∀ a ∈ as, Wcb M e t c (f a) (wipeE env own) fun o e' => o = some (g a) ∧ wipeE e' own = wipeE env own) (k : K (as.map g) env) : Wcp M e t c own (as.map f) env K :=
  wcp_flt (fun a => some (g a)) hn hs (by rw [List.filterMap_eq_map']; exact k)
theorem wcp_fil {α : Type} {M : Mach} {e : E} {t : Tg} {c : Ot} {own : List Nat} {env : En} {K : List D → En → Prop} {as : List α} {f : α → D} (p : α → Bool) (g : α → D) (hn : as.length ≤ 16777216)
    (hs : ∀ a ∈ as, Wcb M e t c (f a) (wipeE env own) fun o e' => o = (if p a then some (g a) else none) ∧ wipeE e' own = wipeE env own) (k : K ((as.filter p).map g) env) : Wcp M e t c own (as.map f) env K :=
  wcp_flt (fun a => if p a then some (g a) else none) hn hs (by
    have : as.filterMap (fun a => if p a then some (g a) else none) = (as.filter p).map g := by
      rw [← List.filterMap_eq_map, List.filterMap_filter]; rfl
    rw [this]; exact k)
/-- a comprehension whose turns change a state -/
theorem wcp_st {α σ : Type} {M : Mach} {e : E} {t : Tg} {c : Ot} {own : List Nat} {env : En} {K : List D → En → Prop} {as : List α} {f : α → D} (mk : σ → En) (I : List α → List D → σ → Prop) {s0 : σ} (hn : as.length ≤ 16777216) (he : env = mk s0) (h0 : I [] [] s0) (ho : ∀ s v, v ∈ own → (mk s)[v]? = (mk s0)[v]?)
    (hs : ∀ pre a suf acc s, as = pre ++ a :: suf → I pre acc s → Wcb M e t c (f a) (wipeE (mk s) own) fun o e' => ∃ s', wipeE e' own = wipeE (mk s') own ∧ I (pre ++ [a]) (acc ++ o.toList) s') (k : ∀ acc s, I as acc s → K acc (mk s)) : Wcp M e t c own (as.map f) env K := ⟨by
  subst he
  obtain ⟨acc', e6, h1, s, h2, h3⟩ := loopC_inv (own := own) (f := cB M e t c) (fun i acc w => ∃ s, w = wipeE (mk s) own ∧ I (as.take i) acc s) (as.map f) 0 [] (wipeE (mk s0) own) ⟨s0, by
      apply List.ext_getElem?; intro j; simp only [wipe_get, wipe_len]; split <;> simp_all, by simpa using h0⟩ (by simp) (by simp; omega) (by
      rintro j x acc w hx ⟨s, rfl, ha⟩
      rw [List.getElem?_map] at hx
      obtain ⟨a, hy, rfl⟩ := Option.map_eq_some_iff.1 hx
      have hj := (List.getElem?_eq_some_iff.1 hy).1
      simp only [Nat.zero_add] at ha ⊢
      obtain ⟨o, e', h1, s', h2, h3⟩ := (hs (as.take j) a (as.drop (j + 1)) acc s (by
        have := (List.getElem?_eq_some_iff.1 hy).2
        rw [← this, List.getElem_cons_drop, List.take_append_drop]) ha).h
      refine ⟨o, e', h1, s', h2, ?_⟩
      rw [List.take_add_one, hy]; exact h3)
  have h4 := back_of (e1 := mk s0) h2 (fun v hv => ho s v hv)
  refine ⟨acc', e6, h1, ?_⟩
  rw [h4]
  refine k _ _ ?_
  simpa [List.take_of_length_le] using h3⟩
/-! ### the frame of a call -/
def fin (ss : List Sv) (Q : Sv → List Sv → Prop) (X : Nat → Option D → List Sv → Prop) : Fl → Prop
  | .nx env => ∃ os, outsO env 0 ss = some os ∧ Q (.dat .none) os
  | .rt s env => ∃ os, outsO env 0 ss = some os ∧ isFd s = false ∧ Q s os
  | .ex c p env => ∃ os, outsO env 0 ss = some os ∧ X c p os
  | _ => False
theorem fin_rt {ss os : List Sv} {Q : Sv → List Sv → Prop} {X : Nat → Option D → List Sv → Prop} {s : Sv} {env : En} (h : outsO env 0 ss = some os) (k : Q s os) (hf : isFd s = false := by rfl) : fin ss Q X (.rt s env) := ⟨os, h, hf, k⟩
theorem fin_nx {ss os : List Sv} {Q : Sv → List Sv → Prop} {X : Nat → Option D → List Sv → Prop} {env : En} (h : outsO env 0 ss = some os) (k : Q (.dat .none) os) : fin ss Q X (.nx env) := ⟨os, h, k⟩
theorem fin_ex {ss os : List Sv} {Q : Sv → List Sv → Prop} {X : Nat → Option D → List Sv → Prop} {c : Nat} {p : Option D} {env : En} (h : outsO env 0 ss = some os) (k : X c p os) : fin ss Q X (.ex c p env) := ⟨os, h, k⟩
theorem callS {G : Pg} {k f : Nat} {F : Fn} {ss : List Sv} {Q : Sv → List Sv → Prop} {X : Nat → Option D → List Sv → Prop} (hF : G.fns[f]? = some F) (hn : ss.length = F.np)
    (h : Ws (Mc G k ss) F.body (ss.map some ++ List.replicate (F.nn - F.np) none) (fin ss Q X)) : CallS G (k + 1) f ss Q X := ⟨by
  have := h.h
  simp only [callF, hF, hn, if_true]
  show match (match exSs (Mc G k ss) F.body (ss.map some ++ List.replicate (F.nn - F.np) none) with
        | .nx env => (match outsO env 0 ss with
          | some os => CR.ok (.dat .none) os
          | none => .no)
        | .rt s env => if isFd s then .no else (match outsO env 0 ss with
          | some os => .ok s os
          | none => .no)
        | .ex c p env => (match outsO env 0 ss with
          | some os => .exc c p os
          | none => .no)
        | _ => .no) with
    | .ok s os => Q s os
    | .exc c p os => X c p os
    | .no => False
  cases hb : exSs (Mc G k ss) F.body (ss.map some ++ List.replicate (F.nn - F.np) none) with
  | nx e => rw [hb] at this; obtain ⟨os, h1, h2⟩ := this; simp only [h1]; exact h2
  | rt v e => rw [hb] at this; obtain ⟨os, h1, hf, h2⟩ := this; simp only [h1, hf]; exact h2
  | ex c p e => rw [hb] at this; obtain ⟨os, h1, h2⟩ := this; simp only [h1]; exact h2
  | bk e => rw [hb] at this; exact this.elim
  | ct e => rw [hb] at this; exact this.elim
  | no => rw [hb] at this; exact this.elim⟩
end Rf
end

-- text RfWc
section
set_option Elab.async false
set_option linter.all false
set_option maxRecDepth 100000
set_option maxHeartbeats 4000000
/-! RfWc: small rules between the rules. -/
namespace Rf
open PySem L2
theorem exI {i : Int} {K : Int → Prop} (k : K i) : ∃ j, PyData.int i = .int j ∧ K j := ⟨i, rfl, k⟩
theorem exS' {z : Str} {K : Str → Prop} (k : K z) : ∃ j, PyData.str z = .str j ∧ K j := ⟨z, rfl, k⟩
theorem exL {z : List D} {K : List D → Prop} (k : K z) : ∃ j, PyData.list z = .list j ∧ K j := ⟨z, rfl, k⟩
theorem exD {z : D} {K : D → Prop} (k : K z) : ∃ j, Rv.dat z = .dat j ∧ K j := ⟨z, rfl, k⟩
theorem anLe {n : Nat} {K : Prop} (h : n ≤ 16777216) (k : K) : n ≤ 16777216 ∧ K := ⟨h, k⟩
theorem anDc {d : D} {K : Prop} (h : isDct d = false) (k : K) : isDct d = false ∧ K := ⟨h, k⟩
theorem sqL {z : List D} {K : List D → Prop} (k : K z) : ∃ j, seqOf (.list z) = some j ∧ K j := ⟨z, rfl, k⟩
theorem sqT {z : List D} {K : List D → Prop} (k : K z) : ∃ j, seqOf (.tuple z) = some j ∧ K j := ⟨z, rfl, k⟩
theorem sqS {z : Str} {K : List D → Prop} (k : K (z.cps.toList.map fun c => .str ⟨#[c]⟩)) : ∃ j, seqOf (.str z) = some j ∧ K j := ⟨_, rfl, k⟩
theorem itL {z : List D} {K : List D → Prop} (k : K z) : ∃ j, itemsD (.list z) = some j ∧ K j := ⟨z, rfl, k⟩
theorem itT {z : List D} {K : List D → Prop} (k : K z) : ∃ j, itemsD (.tuple z) = some j ∧ K j := ⟨z, rfl, k⟩
theorem zpL {x y : List D} {K : List D → List D → Prop} (k : K x y) : ∃ xs ys, ((PyData.list x = .list xs ∧ PyData.list y = .list ys) ∨ (PyData.list x = .tuple xs ∧ PyData.list y = .tuple ys)) ∧ K xs ys := ⟨x, y, .inl ⟨rfl, rfl⟩, k⟩
theorem zpT {x y : List D} {K : List D → List D → Prop} (k : K x y) : ∃ xs ys, ((PyData.tuple x = .list xs ∧ PyData.tuple y = .list ys) ∨ (PyData.tuple x = .tuple xs ∧ PyData.tuple y = .tuple ys)) ∧ K xs ys := ⟨x, y, .inr ⟨rfl, rfl⟩, k⟩
theorem zpM {x y : List D} {K : List D → List D → Prop} (k : K x y) : ∃ xs ys, (PyData.tuple x = .tuple xs ∧ PyData.list y = .list ys) ∧ K xs ys := ⟨x, y, ⟨rfl, rfl⟩, k⟩
abbrev nD (n : Nat) : D := .int (n : Int)
theorem rg1 {j : Int} {K : List D → Prop} (h0 : -(2 ^ 62) ≤ j) (h1 : j ≤ 16777216) (k : K ((List.range j.toNat).map nD)) : ∃ xs, rngD [.int j] = some xs ∧ K xs := ⟨_, by
  simp only [rngD, decide_eq_true h0, decide_eq_true h1, Bool.and_self, if_true]; rfl, by
  have : ((List.range j.toNat).map fun i : Nat => PyData.int (0 + (i : Int))) = (List.range j.toNat).map nD := by
    apply List.map_congr_left; intro i _; simp [nD]
  rw [this]; exact k⟩
theorem rg2 {i j : Int} {K : List D → Prop} (h0 : -(2 ^ 62) ≤ i) (h1 : i < 2 ^ 62) (h2 : -(2 ^ 62) ≤ j) (h3 : j < 2 ^ 62) (h4 : j - i ≤ 16777216) (k : K ((List.range (j - i).toNat).map fun k : Nat => .int (i + (k : Int)))) : ∃ xs, rngD [.int i, .int j] = some xs ∧ K xs := ⟨_, by
  simp only [rngD, decide_eq_true h0, decide_eq_true h1, decide_eq_true h2, decide_eq_true h3, decide_eq_true h4, Bool.and_self, if_true], k⟩
theorem rgD {i j : Int} {K : List D → Prop} (h0 : -(2 ^ 62) ≤ i) (h1 : i < 2 ^ 62) (h2 : -(2 ^ 62) ≤ j) (h3 : j < 2 ^ 62) (h4 : i - j ≤ 16777216) (k : K ((List.range (i - j).toNat).map fun k : Nat => .int (i + (k : Int) * (-1)))) : ∃ xs, rngD [.int i, .int j, .int (-1)] = some xs ∧ K xs := ⟨_, by
  simp only [rngD, decide_eq_true h0, decide_eq_true h1, decide_eq_true h2, decide_eq_true h3, decide_eq_true h4, Bool.and_self, if_true], k⟩
theorem apS {env : En} {i : Nat} {xs : List D} {d : D} {K : En → Prop} (h : slot env i = some (.lst xs)) (hl : xs.length + 1 ≤ 16777216) (k : Sw env i (some (.lst (xs ++ [d]))) K) : ∃ ys, slot env i = some (.lst ys) ∧ ys.length + 1 ≤ 16777216 ∧ Sw env i (some (.lst (ys ++ [d]))) K := ⟨xs, h, hl, k⟩
theorem xtS {env : En} {i : Nat} {xs zs : List D} {K : En → Prop} (h : slot env i = some (.lst xs)) (hl : xs.length + zs.length ≤ 16777216) (k : Sw env i (some (.lst (xs ++ zs))) K) : ∃ ws ys, PyData.list zs = .list ys ∧ slot env i = some (.lst ws) ∧ ws.length + ys.length ≤ 16777216 ∧ Sw env i (some (.lst (ws ++ ys))) K := ⟨xs, zs, rfl, h, hl, k⟩
theorem stL {env : En} {i : Nat} {xs : List D} {n : Int} {d : D} {K : En → Prop} (h : slot env i = some (.lst xs)) (h0 : 0 ≤ n) (h1 : n.toNat < xs.length) (k : Sw env i (some (.lst (xs.set n.toNat d))) K) : ∃ j s s', Rv.plc i = .plc j ∧ slot env j = some s ∧ setW s (.int n) d = some s' ∧ Sw env j (some s') K := ⟨i, _, _, rfl, h, by
  have : n < (xs.length : Int) := by omega
  simp only [setW, ixN, h0, this, if_true, Option.map_some], k⟩
theorem slS {env : En} {i : Nat} {xs ys : List D} {a c : Int} {K : En → Prop} (h : slot env i = some (.lst xs)) (h0 : 0 ≤ a) (h1 : a ≤ c) (h2 : c ≤ (xs.length : Int)) (hl : xs.length + ys.length ≤ 16777216) (k : Sw env i (some (.lst (xs.take a.toNat ++ ys ++ xs.drop c.toNat))) K) : ∃ j s s', Rv.plc i = .plc j ∧ slot env j = some s ∧ slsW s a c (.list ys) = some s' ∧ Sw env j (some s') K := ⟨i, _, _, rfl, h, by
  simp only [slsW, h0, h1, h2, sizeOk_of hl, decide_true, Bool.and_self, if_true], k⟩
theorem stD {env : En} {i : Nat} {kvs : List (D × D)} {kd d : D} {q : Key} {K : En → Prop} (h : slot env i = some (.dct kvs)) (hq : keyOf kd = some q) (hl : kvs.length + 1 ≤ 16777216) (k : Sw env i (some (.dct (dPut kvs kd q d))) K) : ∃ j s s', Rv.plc i = .plc j ∧ slot env j = some s ∧ setW s kd d = some s' ∧ Sw env j (some s') K := ⟨i, _, _, rfl, h, by
  simp only [setW, hq, Option.bind_some, sizeOk_of hl, if_true], k⟩
theorem stT {env : En} {i : Nat} {kvs : List (D × D)} {kd d : D} {q : List Key} {K : En → Prop} (h : slot env i = some (.dtt kvs)) (hq : keyT kd = some q) (hl : kvs.length + 1 ≤ 16777216) (k : Sw env i (some (.dtt (dPutT kvs kd q d))) K) : ∃ j s s', Rv.plc i = .plc j ∧ slot env j = some s ∧ setW s kd d = some s' ∧ Sw env j (some s') K := ⟨i, _, _, rfl, h, by
  simp only [setW, hq, Option.bind_some, sizeOk_of hl, if_true], k⟩
theorem agA {a b : Int} {K : Int → Prop} (k : K (a + b)) : ∃ b', PyData.int b = .int b' ∧ ∃ r, ((Operator.Add = .Add ∧ r = a + b') ∨ (Operator.Add = .Sub ∧ r = a - b')) ∧ K r := ⟨b, rfl, _, .inl ⟨rfl, rfl⟩, k⟩
theorem agS {a b : Int} {K : Int → Prop} (k : K (a - b)) : ∃ b', PyData.int b = .int b' ∧ ∃ r, ((Operator.Sub = .Add ∧ r = a + b') ∨ (Operator.Sub = .Sub ∧ r = a - b')) ∧ K r := ⟨b, rfl, _, .inr ⟨rfl, rfl⟩, k⟩
theorem gxS {z : Str} {kvs : List (D × D)} {v : D} {K : D → Prop} (h : dVal kvs (.inr z) = some v) (k : K v) : ∃ y v, PyData.str z = .str y ∧ dVal kvs (.inr y) = some v ∧ K v := ⟨z, v, rfl, h, k⟩
theorem dgS {env : En} {i : Nat} {kvs : List (D × D)} {dk dx : D} {q : Key} {K : D → Prop} (h : slot env i = some (.dct kvs)) (hq : keyOf dk = some q) (k : K ((dVal kvs q).getD dx)) : ∃ kvs q, slot env i = some (.dct kvs) ∧ keyOf dk = some q ∧ K ((dVal kvs q).getD dx) := ⟨kvs, q, h, hq, k⟩
/-- groups of rules -/
theorem we_ {M : Mach} {e : E} {env : En} {Q : Rv → En → Prop} {X : XP} (h : We M e env Q X) : We M e env Q X := h
theorem wb_ {o : Operator} {a b : Option D} {K : Rv → Prop} (h : Wb o a b K) : Wb o a b K := h
theorem wc_ {o : CmpOp} {a b : Option D} {K : Bool → Prop} (h : Wc o a b K) : Wc o a b K := h
theorem wbl_ {o : Blt} {a : Option (List D)} {K : Rv → Prop} (h : Wbl o a K) : Wbl o a K := h
theorem ws1_ {M : Mach} {s : S} {env : En} {Q : Fl → Prop} (h : Ws1 M s env Q) : Ws1 M s env Q := h
theorem sto_ {M : Mach} {env : En} {i : Nat} {s : Sv} {K : En → Prop} (h : Sto M env i s K) : Sto M env i s K := h
theorem sw_ {env : En} {i : Nat} {v : Option Sv} {K : En → Prop} (h : Sw env i v K) : Sw env i v K := h
theorem bck_ {ns : List (Option Nat)} {outs : List Sv} {env : En} {K : En → Prop} (h : Bck ns outs env K) : Bck ns outs env K := h
theorem wcr_ {G : Pg} {k f : Nat} {rs : List Rv} {env : En} {Q : Rv → En → Prop} {X : XP} (h : WcR G k f rs env Q X) : WcR G k f rs env Q X := h
theorem osw_ {M : Mach} {env : En} {r : Rv} {K : Sv → En → Prop} (h : Osw M env r K) : Osw M env r K := h
theorem catA_ {M : Mach} {c n i : Nat} {v : Option Str} {Q : Fl → Prop} {f : Fl} (h : catA M c n i v Q f) : catA M c n i v Q f := h
theorem cat_ {M : Mach} {hs : List (Nat × Nat × D)} {Q : Fl → Prop} {f : Fl} (h : cat M hs Q f) : cat M hs Q f := h
theorem fin_ {ss : List Sv} {Q : Sv → List Sv → Prop} {X : Nat → Option D → List Sv → Prop} {f : Fl} (h : fin ss Q X f) : fin ss Q X f := h
theorem call_ {G : Pg} {k f : Nat} {ss : List Sv} {Q : Sv → List Sv → Prop} {X : Nat → Option D → List Sv → Prop} (h : CallS G k f ss Q X) : CallS G k f ss Q X := h
theorem asr_ {M : Mach} {t : Tg} {r : Rv} {env : En} {K : En → Prop} (h : Asr M t r env K) : Asr M t r env K := h
/-- both ways, the test said -/
theorem br {k : Bool} {A B : Prop} (a : k = true → A) (b : k = false → B) : Br k A B := ⟨a, b⟩
theorem br_d {P : Prop} [Decidable P] {A B : Prop} (a : P → A) (b : ¬ P → B) : Br (truD (.bool (decide P))) A B := ⟨fun h => a (of_decide_eq_true h), fun h => b (of_decide_eq_false h)⟩
theorem br_nd {P : Prop} [Decidable P] {A B : Prop} (a : ¬ P → A) (b : P → B) : Br (truD (.bool (!decide P))) A B := ⟨fun h => a (by simpa [truD] using h), fun h => b (by simpa [truD] using h)⟩
theorem br_dn {P : Prop} [Decidable P] {A B : Prop} (a : ¬ P → A) (b : P → B) : Br (!truD (.bool (decide P))) A B := ⟨fun h => a (by simpa [truD] using h), fun h => b (by simpa [truD] using h)⟩
theorem br_n {k : Bool} {A B : Prop} (a : k = false → A) (b : k = true → B) : Br (!truD (.bool k)) A B := ⟨fun h => a (by simpa [truD] using h), fun h => b (by simpa [truD] using h)⟩
theorem br_b {k : Bool} {A B : Prop} (a : k = true → A) (b : k = false → B) : Br (truD (.bool k)) A B := ⟨a, b⟩
theorem agA2 {a b : Int} {K : Int → Prop} (k : K (a + b)) : ∃ r, ((Operator.Add = .Add ∧ r = a + b) ∨ (Operator.Add = .Sub ∧ r = a - b)) ∧ K r := ⟨_, .inl ⟨rfl, rfl⟩, k⟩
theorem agS2 {a b : Int} {K : Int → Prop} (k : K (a - b)) : ∃ r, ((Operator.Sub = .Add ∧ r = a + b) ∨ (Operator.Sub = .Sub ∧ r = a - b)) ∧ K r := ⟨_, .inr ⟨rfl, rfl⟩, k⟩
theorem wx_TN {α : Type} {f : α → D} {xs : List α} {b : Nat} {K : D → Prop} (h : b < xs.length) (k : K (f xs[b])) : Wx (some (.tuple (xs.map f))) (some (.int (b : Int))) K := wx_Tm (by omega) (by simpa using h) (by simpa using k)
theorem wx_LN {α : Type} {f : α → D} {xs : List α} {b : Nat} {K : D → Prop} (h : b < xs.length) (k : K (f xs[b])) : Wx (some (.list (xs.map f))) (some (.int (b : Int))) K := wx_Lm (by omega) (by simpa using h) (by simpa using k)
theorem wx_ {a b : Option D} {K : D → Prop} (h : Wx a b K) : Wx a b K := h
/-- a call seen by what it comes to -/
theorem callS_mono {G : Pg} {k f : Nat} {ss : List Sv} {Q Q' : Sv → List Sv → Prop} {X X' : Nat → Option D → List Sv → Prop} (h : CallS G k f ss Q X) (hq : ∀ s os, Q s os → Q' s os) (hx : ∀ c p os, X c p os → X' c p os) : CallS G k f ss Q' X' := ⟨by
  have := h.h
  cases hc : callF G k f ss with
  | ok s os => rw [hc] at this; exact hq _ _ this
  | exc c p os => rw [hc] at this; exact hx _ _ _ this
  | no => rw [hc] at this; exact this⟩
end Rf
namespace Rf
open PySem L2
/-- the slots at a call's begin -/
structure Frm (ss : List Sv) (n : Nat) (env : En) : Prop where
  of :: eq : ss.map some ++ List.replicate n none = env
theorem frm_0 : Frm [] 0 [] := ⟨rfl⟩
theorem frm_s {n : Nat} {env : En} (h : Frm [] n env) : Frm [] (n + 1) (none :: env) := ⟨by rw [← h.eq]; rfl⟩
theorem frm_c {s : Sv} {ss : List Sv} {n : Nat} {env : En} (h : Frm ss n env) : Frm (s :: ss) n (some s :: env) := ⟨by rw [← h.eq]; rfl⟩
theorem callM {G : Pg} {k f m : Nat} {F : Fn} {ss : List Sv} {env : En} {Q : Sv → List Sv → Prop} {X : Nat → Option D → List Sv → Prop} (hF : G.fns[f]? = some F) (hn : ss.length = F.np) (hm : F.nn - F.np = m) (hf : Frm ss m env)
    (h : Ws (Mc G k ss) F.body env (fin ss Q X)) : CallS G (k + 1) f ss Q X := callS hF hn (by rw [hm, hf.eq]; exact h)
end Rf
end

-- text RfWd
section
set_option Elab.async false
set_option linter.all false
set_option maxRecDepth 100000
set_option maxHeartbeats 4000000
/-! RfWd: dict comprehensions, forwards. -/
namespace Rf
open PySem L2
structure Wdc (M : Mach) (k v : E) (t : Tg) (c : Ot) (own : List Nat) (xs : List D) (env : En) (K : List (D × D) → En → Prop) : Prop where
  of :: h : ∃ acc e6, loopD (dcpF M k v t c own) xs [] (wipeE env own) = .ok (acc, e6) ∧ K acc (backE e6 env own)
theorem we_dcp {M : Mach} {k v : E} {t : Tg} {it : Itr} {c : Ot} {own : List Nat} {env : En} {Q : Rv → En → Prop} {X : XP} (h : Wi M it env (fun xs e1 => Wdc M k v t c own xs e1 fun ds e2 => Q (.td ds) e2) X) : We M (.dcp k v t it c own) env Q X := ⟨by
  rw [evE_dcp]
  refine h.h.bd fun ⟨xs, e1⟩ ⟨⟨acc, e6, h1, h2⟩⟩ => ?_
  simp only [h1, R.bind_ok]
  exact h2⟩
theorem wipe_wipe (env : En) (own : List Nat) : wipeE (wipeE env own) own = wipeE env own := by
  apply List.ext_getElem?
  intro j
  simp only [wipe_get, wipe_len]
  split
  · rfl
  · rfl
/-- what a turn of a dict comprehension comes to -/
structure Wdt (M : Mach) (k v : E) (t : Tg) (c : Ot) (x : D) (w : En) (K : D → D → En → Prop) : Prop where
  of :: h : Asd M t x w fun e2 => Wot M c e2 (fun b e3 => b = true ∧ We M k e3 (fun rk e4 => Fw e4 rk fun dk e5 => We M v e5 (fun rv e6 => Fw e6 rv fun dv e7 => K dk dv e7) noX) noX) noX
theorem dcp_turn {M : Mach} {k v : E} {t : Tg} {c : Ot} {own : List Nat} {x dk dv : D} {q : Key} {acc : List (D × D)} {env : En} (hw : wipeE env own = wipeE env own) (h : Wdt M k v t c x (wipeE env own) fun a b e7 => a = dk ∧ b = dv ∧ wipeE e7 own = wipeE env own) (hq : keyOf dk = some q) (hl : acc.length + 1 ≤ 16777216) :
    ∃ e7, dcpF M k v t c own x acc env = .ok (dPut acc dk q dv, e7) ∧ wipeE e7 own = wipeE env own := by
  obtain ⟨e2, h1, h2⟩ := h.h.h
  obtain ⟨⟨b, e3⟩, h3, h4, h5⟩ := rw_no h2.h
  obtain ⟨⟨rk, e4⟩, h6, ⟨⟨dk', e5, h7, h8⟩⟩⟩ := rw_no h5.h
  obtain ⟨⟨rv, e6⟩, h9, ⟨⟨dv', e7, h10, h11, h12, h13⟩⟩⟩ := rw_no h8.h
  simp only at h4 h11 h12 h13 h7 h10
  subst h4 h11 h12
  refine ⟨e7, ?_, h13⟩
  simp only [dcpF, h1, R.opt_some, R.bind_ok, h3, if_true, h6, h7, h9, h10, hq, sizeOk_of hl]
theorem dPut_len (kvs : List (D × D)) (dk dv : D) (q : Key) : (dPut kvs dk q dv).length ≤ kvs.length + 1 := by
  unfold dPut; split <;> simp
theorem loopD_all {α : Type} {M : Mach} {k v : E} {t : Tg} {c : Ot} {own : List Nat} {f kf vf : α → D} {qf : α → Key} {w : En} : ∀ (as : List α) (acc : List (D × D)) (env : En), wipeE env own = w → acc.length + as.length ≤ 16777216 →
    (∀ a ∈ as, Wdt M k v t c (f a) w (fun dk dv e7 => dk = kf a ∧ dv = vf a ∧ wipeE e7 own = w)) → (∀ a ∈ as, keyOf (kf a) = some (qf a)) →
    ∃ e6, loopD (dcpF M k v t c own) (as.map f) acc env = .ok (as.foldl (fun acc a => dPut acc (kf a) (qf a) (vf a)) acc, e6) ∧ wipeE e6 own = w
  | [], acc, env, hw, _, _, _ => ⟨env, rfl, hw⟩
  | a :: as, acc, env, hw, hl, ht, hq => by
    simp only [List.length_cons] at hl
    obtain ⟨e7, h1, h2⟩ := dcp_turn (acc := acc) (env := env) (q := qf a) rfl (by rw [hw]; exact ht a (by simp)) (hq a (by simp)) (by omega)
    have hL := dPut_len acc (kf a) (vf a) (qf a)
    obtain ⟨e6, h3, h4⟩ := loopD_all as (dPut acc (kf a) (qf a) (vf a)) e7 (by rw [h2, hw]) (by omega) (fun b hb => ht b (List.mem_cons_of_mem _ hb)) (fun b hb => hq b (List.mem_cons_of_mem _ hb))
    refine ⟨e6, ?_, h4⟩
    rw [List.map_cons, loopD, h1]
    exact h3
theorem wdc_all {α : Type} {M : Mach} {k v : E} {t : Tg} {c : Ot} {own : List Nat} {env : En} {K : List (D × D) → En → Prop} {as : List α} {f : α → D} (kf vf : α → D) (qf : α → Key) (hn : as.length ≤ 16777216)
    (hs : ∀ a ∈ as, Wdt M k v t c (f a) (wipeE env own) (fun dk dv e7 => dk = kf a ∧ dv = vf a ∧ wipeE e7 own = wipeE env own)) (hq : ∀ a ∈ as, keyOf (kf a) = some (qf a)) (kk : K (as.foldl (fun acc a => dPut acc (kf a) (qf a) (vf a)) []) env) : Wdc M k v t c own (as.map f) env K := ⟨by
  obtain ⟨e6, h1, h2⟩ := loopD_all (f := f) (kf := kf) (vf := vf) (qf := qf) as [] (wipeE env own) (wipe_wipe env own) (by simpa using hn) hs hq
  have h4 := back_of (e1 := env) h2 (fun _ _ => rfl)
  exact ⟨_, e6, h1, by rw [h4]; exact kk⟩⟩
/-- keys that are all unlike -/
theorem fold_put {α : Type} {kf vf : α → D} {qf : α → Key} : ∀ (as pre : List α), (∀ a ∈ pre ++ as, keyOf (kf a) = some (qf a)) → ((pre ++ as).map qf).Nodup → as.foldl (fun acc a => dPut acc (kf a) (qf a) (vf a)) (pre.map fun a => (kf a, vf a)) = (pre ++ as).map fun a => (kf a, vf a)
  | [], pre, _, _ => by simp
  | a :: as, pre, hq, hd => by
    have hp : dPut (pre.map fun a => (kf a, vf a)) (kf a) (qf a) (vf a) = (pre ++ [a]).map fun a => (kf a, vf a) := by
      unfold dPut
      rw [if_neg]
      · simp
      · intro h
        obtain ⟨x, hx, hx2⟩ := List.any_eq_true.1 h
        obtain ⟨b, hb, rfl⟩ := List.mem_map.1 hx
        have h1 := hq b (List.mem_append_left _ hb)
        have h2 := of_decide_eq_true hx2
        rw [h1] at h2
        rw [List.map_append, List.nodup_append] at hd
        exact hd.2.2 (qf b) (List.mem_map.2 ⟨b, hb, rfl⟩) (qf a) (by simp) (Option.some.inj h2)
    rw [List.foldl_cons, hp, fold_put as (pre ++ [a]) (by simpa using hq) (by simpa using hd)]
    simp
theorem wdc_map {α : Type} {M : Mach} {k v : E} {t : Tg} {c : Ot} {own : List Nat} {env : En} {K : List (D × D) → En → Prop} {as : List α} {f : α → D} (kf vf : α → D) (qf : α → Key) (hn : as.length ≤ 16777216)
    (hs : ∀ a ∈ as, Wdt M k v t c (f a) (wipeE env own) (fun dk dv e7 => dk = kf a ∧ dv = vf a ∧ wipeE e7 own = wipeE env own)) (hq : ∀ a ∈ as, keyOf (kf a) = some (qf a)) (hd : (as.map qf).Nodup) (kk : K (as.map fun a => (kf a, vf a)) env) : Wdc M k v t c own (as.map f) env K :=
  wdc_all kf vf qf hn hs hq (by
    have := fold_put (vf := vf) as [] (by simpa using hq) (by simpa using hd)
    rw [List.map_nil] at this
    rw [this]; simpa using kk)
theorem dVal_map {α : Type} {kf vf : α → D} {qf : α → Key} : ∀ {as : List α} {a : α}, (∀ a ∈ as, keyOf (kf a) = some (qf a)) → (as.map qf).Nodup → a ∈ as → dVal (as.map fun a => (kf a, vf a)) (qf a) = some (vf a)
  | b :: as, a, hq, hd, h => by
    rw [List.map_cons, List.nodup_cons] at hd
    simp only [dVal, List.map_cons, List.find?_cons]
    rcases List.mem_cons.1 h with rfl | h
    · simp [hq a (by simp)]
    · have : ¬ keyOf (kf b) = some (qf a) := by
        rw [hq b (by simp)]
        intro e
        exact hd.1 (List.mem_map.2 ⟨a, h, (Option.some.inj e).symm⟩)
      simp only [this, decide_false]
      exact dVal_map (fun x hx => hq x (List.mem_cons_of_mem _ hx)) hd.2 h
theorem dVal_none {α : Type} {kf vf : α → D} {qf : α → Key} {q : Key} : ∀ {as : List α}, (∀ a ∈ as, keyOf (kf a) = some (qf a)) → (∀ a ∈ as, qf a ≠ q) → dVal (as.map fun a => (kf a, vf a)) q = none
  | [], _, _ => rfl
  | b :: as, hq, hn => by
    simp only [dVal, List.map_cons, List.find?_cons]
    have : ¬ keyOf (kf b) = some q := by
      rw [hq b (by simp)]
      intro e
      exact hn b (by simp) (Option.some.inj e)
    simp only [this, decide_false]
    exact dVal_none (fun x hx => hq x (List.mem_cons_of_mem _ hx)) (fun x hx => hn x (List.mem_cons_of_mem _ hx))
/-! ### comprehensions with two fors -/
def cp2F (M : Mach) (e : E) (t : Tg) (c : Ot) (t1 : Tg) (it1 : Itr) (c1 : Ot) (own own1 : List Nat) : D → List D → En → R (List D × En) := fun x acc env => (R.opt (asgD M t x (wipeE env own))).bind fun e2 => (evOt M c e2).bind fun (k, e3) =>
  if k then (evI M it1 e3).bind fun (ys, e4) => loopC (fun x env => cB M e t1 c1 x (wipeE env own1)) ys acc (wipeE e4 own1) else .ok (acc, e3)
structure Wc2 (M : Mach) (e : E) (t : Tg) (c : Ot) (t1 : Tg) (it1 : Itr) (c1 : Ot) (own own1 : List Nat) (xs : List D) (env : En) (K : List D → En → Prop) : Prop where
  of :: h : ∃ acc e6, loopA (cp2F M e t c t1 it1 c1 own own1) xs [] (wipeE env own) = .ok (acc, e6) ∧ K acc (backE e6 env own)
theorem we_cp2 {M : Mach} {e : E} {t : Tg} {it : Itr} {c : Ot} {t1 : Tg} {it1 : Itr} {c1 : Ot} {own own1 : List Nat} {env : En} {Q : Rv → En → Prop} {X : XP} (h : Wi M it env (fun xs e1 => Wc2 M e t c t1 it1 c1 own own1 xs e1 fun ds e2 => Q (.tl ds) e2) X) : We M (.cp2 e t it c t1 it1 c1 own own1) env Q X := ⟨by
  rw [evE_cp2]
  refine h.h.bd fun ⟨xs, e1⟩ ⟨⟨acc, e6, h1, h2⟩⟩ => ?_
  show Rw (R.bind (loopA (cp2F M e t c t1 it1 c1 own own1) xs [] (wipeE e1 own)) _) _ _
  rw [h1, R.bind_ok]
  exact h2⟩
theorem loopC_len {f : D → En → R (Option D × En)} : ∀ {ys a0 : List D} {env : En} {r : List D} {e : En}, loopC f ys a0 env = .ok (r, e) → a0.length ≤ r.length
  | [], a0, env, r, e, h => by
    simp only [loopC, R.ok.injEq, Prod.mk.injEq] at h
    rw [h.1]; exact Nat.le_refl _
  | x :: ys, a0, env, r, e, h => by
    unfold loopC at h
    cases hf : f x env with
    | ok p =>
      obtain ⟨o, e1⟩ := p
      rw [hf, R.lc_ok] at h
      cases o with
      | none => exact loopC_len (ys := ys) h
      | some d =>
        dsimp only at h
        split at h
        · have := loopC_len (ys := ys) h
          simp at this; omega
        · cases h
    | exc c p e1 => rw [hf] at h; cases h
    | no => rw [hf] at h; cases h
theorem loopC_acc {f : D → En → R (Option D × En)} (acc : List D) : ∀ {ys a0 : List D} {env : En} {r : List D} {e : En}, loopC f ys a0 env = .ok (r, e) → acc.length + r.length ≤ 16777216 → loopC f ys (acc ++ a0) env = .ok (acc ++ r, e)
  | [], a0, env, r, e, h, _ => by
    simp only [loopC, R.ok.injEq, Prod.mk.injEq] at h ⊢
    rw [h.1, h.2]; exact ⟨rfl, rfl⟩
  | x :: ys, a0, env, r, e, h, hl => by
    unfold loopC at h ⊢
    cases hf : f x env with
    | ok p =>
      obtain ⟨o, e1⟩ := p
      rw [hf, R.lc_ok] at h
      rw [R.lc_ok]
      cases o with
      | none => exact loopC_acc acc (ys := ys) h hl
      | some d =>
        dsimp only at h ⊢
        split at h
        · have h3 := loopC_len (ys := ys) h
          rw [if_pos (sizeOk_of (by simp at h3 ⊢; omega)), List.append_assoc]
          exact loopC_acc acc (ys := ys) h hl
        · cases h
    | exc c p e1 => rw [hf] at h; cases h
    | no => rw [hf] at h; cases h
theorem back_off {env env0 : En} {j : Nat} : ∀ {vs : List Nat}, j ∉ vs → (backE env env0 vs)[j]? = env[j]?
  | [], _ => rfl
  | v :: vs, h => by
    simp only [List.mem_cons, not_or] at h
    rw [backE, List.getElem?_set_ne (Ne.symm h.1), back_off h.2]
theorem wipe_back {env env0 : En} {own own1 : List Nat} (h : ∀ v ∈ own1, v ∈ own) : wipeE (backE env env0 own1) own = wipeE env own := by
  apply List.ext_getElem?
  intro j
  simp only [wipe_get, back_len]
  split
  · rfl
  · rename_i hj
    by_cases hm : j ∈ own1
    · have hle : ¬ j < env.length := fun q => hj ⟨h j hm, q⟩
      rw [List.getElem?_eq_none (by rw [back_len]; omega), List.getElem?_eq_none (by omega)]
    · exact back_off hm
theorem loopA_all {α : Type} {M : Mach} {e : E} {t : Tg} {c : Ot} {t1 : Tg} {it1 : Itr} {c1 : Ot} {own own1 : List Nat} {f : α → D} {g : α → List D} {w : En} (ho : ∀ v ∈ own1, v ∈ own) : ∀ (as : List α) (acc : List D) (env : En), wipeE env own = w → acc.length + (as.flatMap g).length ≤ 16777216 →
    (∀ a ∈ as, Asd M t (f a) w fun e2 => Wot M c e2 (fun k e3 => k = true ∧ Wi M it1 e3 (fun ys e4 => Wcp M e t1 c1 own1 ys e4 fun ds e5 => ds = g a ∧ wipeE e5 own = w) noX) noX) →
    ∃ e6, loopA (cp2F M e t c t1 it1 c1 own own1) (as.map f) acc env = .ok (acc ++ as.flatMap g, e6) ∧ wipeE e6 own = w
  | [], acc, env, hw, _, _ => ⟨env, by simp [loopA], hw⟩
  | a :: as, acc, env, hw, hl, h => by
    obtain ⟨e2, h1, h2⟩ := (h a (by simp)).h
    obtain ⟨⟨k, e3⟩, h3, h4, h5⟩ := rw_no h2.h
    obtain ⟨⟨ys, e4⟩, h6, ⟨⟨ds, e6, h7, h8, h9⟩⟩⟩ := rw_no h5.h
    simp only at h4 h6 h7 h8 h9
    subst h4 h8
    simp only [List.flatMap_cons, List.length_append] at hl
    have h10 := loopC_acc acc h7 (by omega)
    rw [List.append_nil] at h10
    have hF : cp2F M e t c t1 it1 c1 own own1 (f a) acc env = .ok (acc ++ g a, e6) := by
      simp only [cp2F, hw, h1, R.opt_some, R.bind_ok, h3, if_true, h6, h10]
    rw [wipe_back ho] at h9
    obtain ⟨e7, g1, g2⟩ := loopA_all ho as (acc ++ g a) e6 h9 (by rw [List.length_append]; omega) fun b hb => h b (by simp [hb])
    exact ⟨e7, by rw [List.map_cons, loopA, hF, R.la_ok, g1]; simp, g2⟩
theorem wc2_map {α : Type} {M : Mach} {e : E} {t : Tg} {c : Ot} {t1 : Tg} {it1 : Itr} {c1 : Ot} {own own1 : List Nat} {env : En} {K : List D → En → Prop} {as : List α} {f : α → D} (g : α → List D) (ho : ∀ v ∈ own1, v ∈ own) (hl : (as.flatMap g).length ≤ 16777216)
    (hs : ∀ a ∈ as, Asd M t (f a) (wipeE env own) fun e2 => Wot M c e2 (fun k e3 => k = true ∧ Wi M it1 e3 (fun ys e4 => Wcp M e t1 c1 own1 ys e4 fun ds e5 => ds = g a ∧ wipeE e5 own = wipeE env own) noX) noX) (k : K (as.flatMap g) env) : Wc2 M e t c t1 it1 c1 own own1 (as.map f) env K := ⟨by
  obtain ⟨e6, h1, h2⟩ := loopA_all ho as [] (wipeE env own) (wipe_wipe env own) (by simpa using hl) hs
  have h4 := back_of (e1 := env) h2 (fun _ _ => rfl)
  exact ⟨_, e6, h1, by rw [h4]; simpa using k⟩⟩
end Rf
end

set_option Elab.async false
set_option linter.all false
set_option maxRecDepth 100000
open PySem Rf
local macro_rules | `(tactic| show_term $t:tacticSeq) => `(tactic| (repeat' first | ($t) | (refine we_ ?_; first | refine we_var rfl ?_ | refine we_plc rfl ?_ | refine we_int ?_ | refine we_str ?_ | refine we_idx ?_ | refine we_bin ?_ | refine we_cmp ?_ | refine we_call ?_ | refine we_blt ?_ | refine we_slc ?_ | refine we_tup ?_ | refine we_app rfl ?_ | refine we_lst ?_ | refine we_bl ?_ | refine we_non ?_ | refine we_cpr ?_ | refine we_ite ?_ | refine we_mth ?_ | refine we_isi ?_ | refine we_chn ?_ | refine we_neg ?_ | refine we_not ?_ | refine we_and ?_ | refine we_or ?_ | refine we_ext rfl ?_ | refine we_plk rfl ?_ | refine we_gbl rfl rfl ?_ | refine we_dget rfl ?_ | refine we_gix rfl ?_ | refine we_plt rfl ?_ | refine we_tin ?_ | refine we_tix rfl ?_ | refine we_tget rfl ?_ | refine we_tnew ?_ | refine we_pop rfl ?_ | refine we_dcp ?_ | refine we_dnew ?_ | refine we_rev ?_ | refine we_mmd ?_ | refine we_dsp ?_ | refine we_dct ?_ | refine we_tmi ?_ | refine we_dgx ?_ | refine we_cp2 ?_) | (refine ws1_ ?_; first | refine s_asg ?_ | refine s_ite ?_ | refine s_exp ?_ | refine s_ret ?_ | refine s_for ?_ | refine s_par ?_ | refine s_whl ?_ | refine s_aug rfl ?_ | refine s_set ?_ | refine s_tri ?_ | refine s_tra ?_ | refine s_rap ?_ | refine s_rai ?_ | refine s_as2 ?_ | refine s_sls ?_ | refine s_retN ?_ | refine s_cnt ?_ | refine s_brk ?_ | refine s_doc ?_ | refine s_pass ?_) | (refine wb_ ?_; first | refine wb_addI ?_ | refine wb_subI ?_ | refine wb_mulI (by first | exact mulOk_left (by omega) (by omega) | exact mulOk_right (by omega) (by omega)) ?_ | refine wb_div (by omega) (by omega) ?_ | refine wb_mod (by omega) ?_ | refine wb_addT (by first | omega | (simp; done) | (simp; omega) | assumption) ?_ | refine wb_addL (by first | omega | (simp; done) | (simp; omega) | assumption) ?_ | refine wb_addS (by first | omega | (simp; done) | (simp; omega) | assumption) ?_) | (refine wc_ ?_; first | refine wc_eqS ?_ | refine wc_neS ?_ | refine wc_eqI ?_ | refine wc_neI ?_ | refine wc_lt ?_ | refine wc_le ?_ | refine wc_gt ?_ | refine wc_ge ?_ | refine wc_is ?_ | refine wc_isnot ?_ | refine wc_eq0 ?_ | refine wc_ne0 ?_ | refine wc_inSL ?_ | refine wc_inST ?_ | refine wc_inSTl (by repeat' first | exact strs_nil | apply strs_cons) ?_ | refine wc_inSLl (by repeat' first | exact strs_nil | apply strs_cons) ?_ | refine wc_niST ?_ | refine wc_niSL ?_ | refine wc_niSTl (by repeat' first | exact strs_nil | apply strs_cons) ?_ | refine wc_inIL ?_ | refine wc_ltS ?_ | refine wc_leS ?_ | refine wc_inS ?_) | (refine wbl_ ?_; first | refine wbl_lenTm ?_ | refine wbl_lenLm ?_ | refine wbl_lenT ?_ | refine wbl_lenL ?_ | refine wbl_lenS ?_ | refine wbl_lenD ?_ | refine wbl_tupL ?_ | refine wbl_tupT ?_ | refine wbl_lisL ?_ | refine wbl_lisT ?_ | refine wbl_sum ?_ | refine wbl_all ?_ | refine wbl_any ?_ | refine wbl_allm ?_ | refine wbl_anym ?_ | refine wbl_intB ?_ | refine wbl_intI ?_ | refine wbl_abs ?_ | refine wbl_max2 ?_ | refine wbl_min2 ?_ | refine wbl_min3 ?_) | (refine sto_ ?_; refine sto rfl (by repeat' first | exact setL_z | apply setL_s) ?_) | (refine sw_ ?_; refine sw (by repeat' first | exact setL_z | apply setL_s) ?_) | (refine bck_ ?_; first | refine bck_no ?_ | refine bck_nil ?_ | refine bck_some (by repeat' first | exact setL_z | apply setL_s) ?_) | (refine wcr_ ?_; refine wcr (by repeat' first | exact nrm_nil | apply nrm_dat | apply nrm_tl | apply nrm_plc rfl | apply nrm_plcd rfl | apply nrm_plk rfl | apply nrm_plt rfl) rfl ?_) | (refine osw_ ?_; first | refine osw_dat ?_ | refine osw_tl ?_ | refine osw_td ?_ | refine osw_tt ?_ | refine osw_plc rfl rfl ?_) | (refine fin_ ?_; first | refine fin_rt rfl ?_ | refine fin_nx rfl ?_ | refine fin_ex rfl ?_) | (refine cat_ ?_; first | refine cat_nx ?_ | refine cat_rt ?_ | refine cat_ex rfl ?_) | (refine catA_ ?_; first | refine catA_nx ?_ | refine catA_rt ?_ | refine catA_ex rfl (sto rfl (by repeat' first | exact setL_z | apply setL_s) True.intro) ?_) | refine ws_cons ?_ | refine ws_nil ?_ | refine thn_nx ?_ | refine asr_dat ?_ | refine fw_dat ?_ | refine vv rfl ?_ | refine wds_cons ?_ | refine wds_nil ?_ | refine wa_cons ?_ | refine wa_nil ?_ | refine wt_val ?_ | refine wt_not ?_ | refine asr_tl ?_ | refine asr_td ?_ | refine asr_tt ?_ | refine asr_tp ?_ | refine asr_plc ?_ | refine asd_nm ?_ | refine asd_tp ?_ | refine asds_cons ?_ | refine asds_nil ?_ | refine fw_tl ?_ | refine fw_plc rfl ?_ | refine fw_plcd rfl ?_ | refine wo_no ?_ | refine wo_yes ?_ | refine wt_and ?_ | refine wt_or ?_ | refine wta_c ?_ | refine wta_1 ?_ | refine wto_c ?_ | refine wto_1 ?_ | refine wot_no ?_ | refine wot_yes ?_ | refine wi_seq ?_ | refine wi_rng ?_ | refine wi_enu ?_ | refine wi_zip ?_ | refine wi_zpm ?_ | refine wan_c ?_ | refine wan_1 ?_ | refine wor_c ?_ | refine wor_1 ?_ | refine br_t rfl ?_ | refine br_f rfl ?_ | refine thn_rt ?_ | refine thn_ex ?_ | refine thn_bk ?_ | refine thn_ct ?_ | refine exI ?_ | refine exS' ?_ | refine exL ?_ | refine exD ?_ | refine anLe (by simp) ?_ | refine anDc rfl ?_ | refine sqL ?_ | refine sqT ?_ | refine sqS ?_ | refine itL ?_ | refine itT ?_ | refine zpL ?_ | refine zpT ?_ | refine zpM ?_ | refine rg1 (by omega) (by omega) ?_ | refine apS rfl (by first | omega | (simp; done) | (simp; omega) | assumption) ?_ | refine xtS rfl (by first | omega | (simp; done) | (simp; omega) | assumption) ?_ | refine agA2 ?_ | refine agS2 ?_ | refine stD rfl rfl (by first | omega | (simp; done) | (simp; omega) | assumption) ?_ | refine own_nil ?_ | refine own_d ?_ | refine own_l ?_ | refine own_k ?_ | refine own_t ?_ | refine own_p ?_ | refine stow_cons ?_ | refine stow_nil ?_ | refine wsl_Tm ?_ | refine wsl_Lm ?_ | refine wsl_T ?_ | refine wsl_L ?_ | refine wsl_S ?_ | refine wx_of rfl ?_ | refine wmd_sw ?_ | refine wmd_ew ?_ | refine trn_nx ?_ | refine trn_ct ?_ | refine trn_bk ?_ | refine trn_rt ?_ | refine trn_ex ?_))
namespace Lw
open PySem PySem.Spec PyProof.Rows L2 Rf
def topS (i : Nat) : Stmt := PySem.Challenge.pw_saywright_k20_slips_by_hand.main.body.getD i (.Pass ⟨0, 0, 0, 0⟩)
/-- full_names: 0 tongue, 1 one -/
def b_full_names : Ss := (.cons (.ret (.cpr (.idx (.var 1) (.int 0)) (.nm 1) (.seq (.idx (.var 0) (.int 0))) (.yes (.val (.idx (.var 1) (.int 1)))) [1]))
  .nil)
def i_full_names : FnI := ⟨"full_names", "full_names", topS 4, ["tongue", "one"], ["tongue"], b_full_names⟩
theorem m_full_names : i_full_names.fn.nn - i_full_names.fn.np = 1 := rfl
/-- stands: 0 rule, 1 word, 2 place, 3 ahead, 4 letters, 5 behind, 6 told, 7 end, 8 left -/
def b_stands : Ss := (.cons (.asg (.tp (.cons (.nm 3) (.cons (.nm 4) (.cons (.nm 5) (.cons (.nm 6) .nil))))) (.var 0))
  (.cons (.asg (.nm 7) (.bin .Add (.var 2) (.blt .len (.cons (.var 4) .nil))))
  (.cons (.ite (.val (.cmp .NotEq (.slc (.var 1) (.yes (.var 2)) (.yes (.var 7))) (.var 4))) (.cons (.ret (.bl false))
  .nil) .nil)
  (.cons (.asg (.nm 8) (.ite (.val (.cmp .Eq (.var 3) (.str (sL [94])))) (.cmp .Eq (.var 2) (.int 0)) (.mth .endswith (.slc (.var 1) .no (.yes (.var 2))) (.cons (.var 3) .nil))))
  (.cons (.ret (.and (.cons (.var 8) (.cons (.ite (.val (.cmp .Eq (.var 5) (.str (sL [36])))) (.cmp .Eq (.var 7) (.blt .len (.cons (.var 1) .nil))) (.mth .startswith (.slc (.var 1) (.yes (.var 7)) .no) (.cons (.var 5) .nil))) .nil))))
  .nil)))))
def i_stands : FnI := ⟨"stands", "stands", topS 6, ["rule", "word", "place", "ahead", "letters", "behind", "told", "end", "left"], ["rule", "word", "place"], b_stands⟩
theorem m_stands : i_stands.fn.nn - i_stands.fn.np = 6 := rfl
/-- listed: 0 tongue, 1 word, 2 other, 3 told -/
def b_listed : Ss := (.cons (.for (.tp (.cons (.nm 2) (.cons (.nm 3) .nil))) (.seq (.idx (.var 0) (.int 2))) (.cons (.ite (.val (.cmp .Eq (.var 2) (.var 1))) (.cons (.ret (.var 3))
  .nil) .nil)
  .nil))
  (.cons (.ret .non)
  .nil))
def i_listed : FnI := ⟨"listed", "listed", topS 7, ["tongue", "word", "other", "told"], ["tongue", "word"], b_listed⟩
theorem m_listed : i_listed.fn.nn - i_listed.fn.np = 2 := rfl
/-- by_rules: 0 tongue, 1 word, 2 found, 3 place, 4 good, 5 number, 6 rule -/
def b_by_rules : Ss := (.cons (.par [2, 3] (.cons (.lst .nil) (.cons (.int 0) .nil)))
  (.cons (.whl (.val (.cmp .Lt (.var 3) (.blt .len (.cons (.var 1) .nil)))) (.cons (.asg (.nm 4) (.cpr (.var 5) (.tp (.cons (.nm 5) (.cons (.nm 6) .nil))) (.enu (.idx (.var 0) (.int 1))) (.yes (.val (.app 1 (.cons (.var 6) (.cons (.var 1) (.cons (.var 3) .nil)))))) [5, 6]))
  (.cons (.ite (.not (.val (.var 4))) (.cons (.rap 0 (.var 3))
  .nil) .nil)
  (.cons (.exp (.mut .append 2 (.cons (.tup (.cons (.var 3) (.cons (.idx (.var 4) (.int 0)) .nil))) .nil)))
  (.cons (.aug 3 .Add (.blt .len (.cons (.idx (.idx (.idx (.var 0) (.int 1)) (.idx (.var 4) (.int 0))) (.int 1)) .nil)))
  .nil)))))
  (.cons (.ret (.blt .tuple (.cons (.var 2) .nil)))
  .nil)))
def i_by_rules : FnI := ⟨"by_rules", "by_rules", topS 8, ["tongue", "word", "found", "place", "good", "number", "rule"], ["tongue", "word"], b_by_rules⟩
theorem m_by_rules : i_by_rules.fn.nn - i_by_rules.fn.np = 5 := rfl
/-- said_by_rules: 0 tongue, 1 word, 2 place, 3 rule, 4 sound -/
def b_said_by_rules : Ss := (.cons (.ret (.blt .tuple (.cons (.cp2 (.var 4) (.tp (.cons (.nm 2) (.cons (.nm 3) .nil))) (.seq (.app 3 (.cons (.var 0) (.cons (.var 1) .nil)))) .no (.nm 4) (.seq (.idx (.idx (.idx (.var 0) (.int 1)) (.var 3)) (.int 3))) .no [2, 3, 4] [4]) .nil)))
  .nil)
def i_said_by_rules : FnI := ⟨"said_by_rules", "said_by_rules", topS 9, ["tongue", "word", "place", "rule", "sound"], ["tongue", "word"], b_said_by_rules⟩
theorem m_said_by_rules : i_said_by_rules.fn.nn - i_said_by_rules.fn.np = 3 := rfl
/-- said: 0 tongue, 1 word, 2 told -/
def b_said : Ss := (.cons (.asg (.nm 2) (.app 2 (.cons (.var 0) (.cons (.var 1) .nil))))
  (.cons (.ret (.ite (.val (.cmp .Is (.var 2) .non)) (.app 4 (.cons (.var 0) (.cons (.var 1) .nil))) (.var 2)))
  .nil))
def i_said : FnI := ⟨"said", "said", topS 10, ["tongue", "word", "told"], ["tongue", "word"], b_said⟩
theorem m_said : i_said.fn.nn - i_said.fn.np = 1 := rfl
/-- all_said: 0 tongue, 1 lexicon, 2 word -/
def b_all_said : Ss := (.cons (.ret (.cpr (.tup (.cons (.var 2) (.cons (.app 5 (.cons (.var 0) (.cons (.var 2) .nil))) .nil))) (.nm 2) (.seq (.var 1)) .no [2]))
  .nil)
def i_all_said : FnI := ⟨"all_said", "all_said", topS 12, ["tongue", "lexicon", "word"], ["tongue", "lexicon"], b_all_said⟩
theorem m_all_said : i_all_said.fn.nn - i_all_said.fn.np = 1 := rfl
/-- unlikeness: 0 full, 1 one, 2 other -/
def b_unlikeness : Ss := (.cons (.ite (.val (.cmp .Eq (.var 1) (.var 2))) (.cons (.ret (.int 0))
  .nil) .nil)
  (.cons (.ret (.ite (.val (.cmp .Eq (.cmp .In (.var 1) (.var 0)) (.cmp .In (.var 2) (.var 0)))) (.int 1) (.int 2)))
  .nil))
def i_unlikeness : FnI := ⟨"unlikeness", "unlikeness", topS 13, ["full", "one", "other"], ["full", "one", "other"], b_unlikeness⟩
theorem m_unlikeness : i_unlikeness.fn.nn - i_unlikeness.fn.np = 0 := rfl
/-- distances: 0 full, 1 sounds, 2 row, 3 price, 4 line, 5 many, 6 sound, 7 new, 8 at, 9 other, 10 change -/
def b_distances : Ss := (.cons (.asg (.nm 4) (.cpr (.bin .Mult (.var 3) (.var 5)) (.nm 5) (.rng (.cons (.bin .Add (.blt .len (.cons (.var 2) .nil)) (.int 1)) .nil)) .no [5]))
  (.cons (.for (.nm 6) (.seq (.var 1)) (.cons (.asg (.nm 7) (.lst (.cons (.bin .Add (.idx (.var 4) (.int 0)) (.var 3)) .nil)))
  (.cons (.for (.tp (.cons (.nm 8) (.cons (.nm 9) .nil))) (.enu (.var 2)) (.cons (.asg (.nm 10) (.bin .Add (.idx (.var 4) (.var 8)) (.app 7 (.cons (.var 0) (.cons (.var 6) (.cons (.var 9) .nil))))))
  (.cons (.exp (.mut .append 7 (.cons (.blt .min (.cons (.var 10) (.cons (.bin .Add (.idx (.var 4) (.bin .Add (.var 8) (.int 1))) (.var 3)) (.cons (.bin .Add (.idx (.var 7) (.var 8)) (.var 3)) .nil)))) .nil)))
  .nil)))
  (.cons (.asg (.nm 4) (.var 7))
  .nil))))
  (.cons (.ret (.var 4))
  .nil)))
def i_distances : FnI := ⟨"distances", "distances", topS 14, ["full", "sounds", "row", "price", "line", "many", "sound", "new", "at", "other", "change"], ["full", "sounds", "row", "price"], b_distances⟩
theorem m_distances : i_distances.fn.nn - i_distances.fn.np = 7 := rfl
/-- slip: 0 tongue, 1 lexicon, 2 row, 3 price, 4 words, 5 full, 6 best, 7 at, 8 found, 9 word, 10 sounds, 11 costs, 12 many, 13 cost, 14 rest -/
def b_slip : Ss := (.cons (.par [4, 5] (.cons (.app 6 (.cons (.var 0) (.cons (.var 1) .nil))) (.cons (.app 0 (.cons (.var 0) .nil)) .nil)))
  (.cons (.asg (.nm 6) (.dsp (.cons (.blt .len (.cons (.var 2) .nil)) (.cons (.tup (.cons (.int 0) (.cons (.tup .nil) .nil))) .nil))))
  (.cons (.for (.nm 7) (.rng (.cons (.bin .Sub (.blt .len (.cons (.var 2) .nil)) (.int 1)) (.cons (.neg (.int 1)) (.cons (.neg (.int 1)) .nil)))) (.cons (.asg (.nm 8) (.lst (.cons (.tup (.cons (.bin .Add (.idx (.idx (.var 6) (.bin .Add (.var 7) (.int 1))) (.int 0)) (.var 3)) (.cons (.idx (.idx (.var 6) (.bin .Add (.var 7) (.int 1))) (.int 1)) .nil))) .nil)))
  (.cons (.for (.tp (.cons (.nm 9) (.cons (.nm 10) .nil))) (.seq (.var 4)) (.cons (.asg (.nm 11) (.app 8 (.cons (.var 5) (.cons (.var 10) (.cons (.slc (.var 2) (.yes (.var 7)) .no) (.cons (.var 3) .nil))))))
  (.cons (.for (.nm 12) (.rng (.cons (.int 1) (.cons (.bin .Add (.bin .Sub (.blt .len (.cons (.var 2) .nil)) (.var 7)) (.int 1)) .nil))) (.cons (.asg (.tp (.cons (.nm 13) (.cons (.nm 14) .nil))) (.idx (.var 6) (.bin .Add (.var 7) (.var 12))))
  (.cons (.exp (.mut .append 8 (.cons (.tup (.cons (.bin .Add (.idx (.var 11) (.var 12)) (.var 13)) (.cons (.bin .Add (.tup (.cons (.var 9) .nil)) (.var 14)) .nil))) .nil)))
  .nil)))
  .nil)))
  (.cons (.set (.var 6) (.var 7) (.blt .min (.cons (.var 8) .nil)))
  .nil))))
  (.cons (.ret (.idx (.var 6) (.int 0)))
  .nil))))
def i_slip : FnI := ⟨"slip", "slip", topS 15, ["tongue", "lexicon", "row", "price", "words", "full", "best", "at", "found", "word", "sounds", "costs", "many", "cost", "rest"], ["tongue", "lexicon", "row", "price"], b_slip⟩
theorem m_slip : i_slip.fn.nn - i_slip.fn.np = 11 := rfl
/-- _law_same: 0 got, 1 due, 2 one, 3 other -/
def b__law_same : Ss := (.cons (.ite (.val (.cmp .Is (.var 1) .non)) (.cons (.ret (.cmp .Is (.var 0) .non))
  .nil) .nil)
  (.cons (.ite (.val (.isi (.var 1) .bool)) (.cons (.ret (.and (.cons (.isi (.var 0) .bool) (.cons (.cmp .Eq (.var 0) (.var 1)) .nil))))
  .nil) .nil)
  (.cons (.ite (.val (.isi (.var 1) .tuple)) (.cons (.ite (.or (.cons (.not (.val (.isi (.var 0) .tuple))) (.one (.val (.cmp .NotEq (.blt .len (.cons (.var 0) .nil)) (.blt .len (.cons (.var 1) .nil))))))) (.cons (.ret (.bl false))
  .nil) .nil)
  (.cons (.ret (.blt .all (.cons (.cpr (.app 10 (.cons (.var 2) (.cons (.var 3) .nil))) (.tp (.cons (.nm 2) (.cons (.nm 3) .nil))) (.zip (.var 0) (.var 1)) .no [2, 3]) .nil)))
  .nil)) .nil)
  (.cons (.ite (.val (.isi (.var 1) .str)) (.cons (.ret (.and (.cons (.isi (.var 0) .str) (.cons (.cmp .Eq (.var 0) (.var 1)) .nil))))
  .nil) .nil)
  (.cons (.ret (.and (.cons (.isi (.var 0) .int) (.cons (.not (.isi (.var 0) .bool)) (.cons (.cmp .Eq (.var 0) (.var 1)) .nil)))))
  .nil)))))
def i__law_same : FnI := ⟨"_law_same", "_law_same", topS 17, ["got", "due", "one", "other"], ["got", "due"], b__law_same⟩
theorem m__law_same : i__law_same.fn.nn - i__law_same.fn.np = 2 := rfl
/-- _law_draw: 0 script, 1 town, 2 many, 3 cell, 4 k, 5 digits, 6 number, 7 more -/
def b__law_draw : Ss := (.cons (.ite (.not (.val (.var 1))) (.cons (.exp (.mut .append 1 (.cons (.blt .max (.cons (.bin .Add (.cpr (.blt .abs (.cons (.var 3) .nil)) (.nm 3) (.seq (.var 0)) .no [3]) (.lst (.cons (.int 0) .nil))) .nil)) .nil)))
  .nil) .nil)
  (.cons (.exp (.mut .append 1 (.cons (.int 0) .nil)))
  (.cons (.asg (.nm 4) (.blt .len (.cons (.var 1) .nil)))
  (.cons (.asg (.nm 3) (.ite (.val (.var 0)) (.idx (.var 0) (.bin .Mod (.var 4) (.blt .len (.cons (.var 0) .nil)))) (.int 0)))
  (.cons (.asg (.nm 5) (.bin .Mod (.idx (.var 1) (.int 0)) (.int 65536)))
  (.cons (.set (.var 1) (.int 0) (.bin .FloorDiv (.idx (.var 1) (.int 0)) (.int 65536)))
  (.cons (.asg (.nm 6) (.bin .Mod (.bin .Add (.bin .Add (.var 3) (.bin .Mult (.int 40503) (.var 5))) (.bin .Mult (.int 104729) (.var 4))) (.int 4294967291)))
  (.cons (.asg (.nm 6) (.bin .Mod (.bin .Mult (.bin .Mod (.bin .Mult (.var 6) (.var 6)) (.int 4294967279)) (.int 48271)) (.int 4294967291)))
  (.cons (.asg (.nm 7) (.bin .Mod (.bin .Mult (.bin .Mod (.bin .Mult (.var 6) (.var 6)) (.int 4294967279)) (.int 69621)) (.int 4294967291)))
  (.cons (.ret (.bin .Mod (.bin .Add (.bin .Mult (.bin .FloorDiv (.var 6) (.int 64)) (.int 67108864)) (.bin .FloorDiv (.var 7) (.int 64))) (.var 2)))
  .nil))))))))))
def i__law_draw : FnI := ⟨"_law_draw", "_law_draw", topS 18, ["script", "town", "many", "cell", "k", "digits", "number", "more"], ["script", "town", "many"], b__law_draw⟩
theorem m__law_draw : i__law_draw.fn.nn - i__law_draw.fn.np = 5 := rfl
/-- _law_pick: 0 script, 1 town, 2 some -/
def b__law_pick : Ss := (.cons (.ret (.idx (.var 2) (.app 11 (.cons (.var 0) (.cons (.var 1) (.cons (.blt .len (.cons (.var 2) .nil)) .nil))))))
  .nil)
def i__law_pick : FnI := ⟨"_law_pick", "_law_pick", topS 19, ["script", "town", "some"], ["script", "town", "some"], b__law_pick⟩
theorem m__law_pick : i__law_pick.fn.nn - i__law_pick.fn.np = 0 := rfl
/-- _law_words: 0 found, 1 one, 2 other -/
def b__law_words : Ss := (.cons (.asg (.nm 0) (.lst .nil))
  (.cons (.for (.nm 1) (.seq (.str (sL [97, 98, 101, 115, 116]))) (.cons (.asg (.nm 0) (.bin .Add (.var 0) (.cpr (.bin .Add (.var 1) (.var 2)) (.nm 2) (.seq (.str (sL [97, 98, 101, 115, 116]))) .no [2])))
  .nil))
  (.cons (.asg (.nm 0) (.blt .tuple (.cons (.bin .Add (.var 0) (.lst (.cons (.str (sL [97, 97, 98])) (.cons (.str (sL [97, 97, 101])) (.cons (.str (sL [97, 97, 115])) (.cons (.str (sL [97, 97, 116])) (.cons (.str (sL [97, 98, 97])) .nil))))))) .nil)))
  (.cons (.ret (.tup (.cons (.slc (.var 0) .no (.yes (.int 20))) (.cons (.slc (.var 0) (.yes (.int 20)) (.yes (.int 28))) (.cons (.idx (.var 0) (.int 28)) (.cons (.idx (.var 0) (.int 29)) .nil))))))
  .nil))))
def i__law_words : FnI := ⟨"_law_words", "_law_words", topS 20, ["found", "one", "other"], [], b__law_words⟩
theorem m__law_words : i__law_words.fn.nn - i__law_words.fn.np = 3 := rfl
/-- _law_drawn_told: 0 script, 1 town, 2 least, 3 many, 4 j -/
def b__law_drawn_told : Ss := (.cons (.asg (.nm 3) (.bin .Add (.var 2) (.app 11 (.cons (.var 0) (.cons (.var 1) (.cons (.int 3) .nil))))))
  (.cons (.ret (.blt .tuple (.cons (.cpr (.app 12 (.cons (.var 0) (.cons (.var 1) (.cons (.lst (.cons (.str (sL [97])) (.cons (.str (sL [101])) (.cons (.str (sL [111])) (.cons (.str (sL [98])) (.cons (.str (sL [107])) (.cons (.str (sL [115])) (.cons (.str (sL [116])) .nil)))))))) .nil)))) (.nm 4) (.rng (.cons (.var 3) .nil)) .no [4]) .nil)))
  .nil))
def i__law_drawn_told : FnI := ⟨"_law_drawn_told", "_law_drawn_told", topS 21, ["script", "town", "least", "many", "j"], ["script", "town", "least"], b__law_drawn_told⟩
theorem m__law_drawn_told : i__law_drawn_told.fn.nn - i__law_drawn_told.fn.np = 2 := rfl
/-- _law_drawn_rule: 0 script, 1 town, 2 letters, 3 left, 4 right -/
def b__law_drawn_rule : Ss := (.cons (.asg (.nm 2) (.app 12 (.cons (.var 0) (.cons (.var 1) (.cons (.lst (.cons (.str (sL [97])) (.cons (.str (sL [98])) (.cons (.str (sL [101])) (.cons (.str (sL [115])) (.cons (.str (sL [116])) (.cons (.str (sL [97, 98])) (.cons (.str (sL [115, 116])) (.cons (.str (sL [116, 97])) (.cons (.str (sL [115, 116, 97])) .nil)))))))))) .nil)))))
  (.cons (.asg (.nm 3) (.app 12 (.cons (.var 0) (.cons (.var 1) (.cons (.lst (.cons (.str (sL [])) (.cons (.str (sL [])) (.cons (.str (sL [94])) (.cons (.str (sL [97])) (.cons (.str (sL [115])) (.cons (.str (sL [116, 97])) .nil))))))) .nil)))))
  (.cons (.asg (.nm 4) (.app 12 (.cons (.var 0) (.cons (.var 1) (.cons (.lst (.cons (.str (sL [])) (.cons (.str (sL [])) (.cons (.str (sL [36])) (.cons (.str (sL [101])) (.cons (.str (sL [116])) (.cons (.str (sL [97, 116])) .nil))))))) .nil)))))
  (.cons (.ret (.tup (.cons (.var 3) (.cons (.var 2) (.cons (.var 4) (.cons (.app 14 (.cons (.var 0) (.cons (.var 1) (.cons (.int 0) .nil)))) .nil))))))
  .nil))))
def i__law_drawn_rule : FnI := ⟨"_law_drawn_rule", "_law_drawn_rule", topS 22, ["script", "town", "letters", "left", "right"], ["script", "town"], b__law_drawn_rule⟩
theorem m__law_drawn_rule : i__law_drawn_rule.fn.nn - i__law_drawn_rule.fn.np = 3 := rfl
/-- _law_drawn_tongue: 0 script, 1 town, 2 whole, 3 sounds, 4 entries, 5 name, 6 rules, 7 k, 8 letter, 9 onsets, 10 one, 11 given, 12 word -/
def b__law_drawn_tongue : Ss := (.cons (.par [3, 4] (.cons (.lst .nil) (.cons .dnew .nil)))
  (.cons (.for (.nm 5) (.seq (.str (sL [97, 98, 101, 107, 111, 115, 116]))) (.cons (.exp (.mut .append 3 (.cons (.tup (.cons (.var 5) (.cons (.cmp .In (.var 5) (.str (sL [97, 101, 111]))) (.cons (.bin .Add (.int 1) (.app 11 (.cons (.var 0) (.cons (.var 1) (.cons (.int 20) .nil))))) .nil)))) .nil)))
  .nil))
  (.cons (.asg (.nm 6) (.cpr (.app 15 (.cons (.var 0) (.cons (.var 1) .nil))) (.nm 7) (.rng (.cons (.app 11 (.cons (.var 0) (.cons (.var 1) (.cons (.int 5) .nil)))) .nil)) .no [7]))
  (.cons (.for (.nm 8) (.seq (.str (sL [97, 98, 101, 115, 116]))) (.cons (.ite (.or (.cons (.val (.var 2)) (.one (.val (.cmp .Gt (.app 11 (.cons (.var 0) (.cons (.var 1) (.cons (.int 15) .nil)))) (.int 0)))))) (.cons (.exp (.mut .append 6 (.cons (.tup (.cons (.str (sL [])) (.cons (.var 8) (.cons (.str (sL [])) (.cons (.tup (.cons (.app 12 (.cons (.var 0) (.cons (.var 1) (.cons (.lst (.cons (.var 8) (.cons (.var 8) (.cons (.str (sL [107])) (.cons (.str (sL [111])) .nil))))) .nil)))) .nil)) .nil))))) .nil)))
  .nil) .nil)
  .nil))
  (.cons (.for (.nm 7) (.rng (.cons (.app 11 (.cons (.var 0) (.cons (.var 1) (.cons (.int 3) .nil)))) .nil)) (.cons (.set (.var 4) (.app 12 (.cons (.var 0) (.cons (.var 1) (.cons (.lst (.cons (.str (sL [97, 98])) (.cons (.str (sL [115, 97, 116])) (.cons (.str (sL [98, 101, 116, 97])) (.cons (.str (sL [116, 101, 97])) .nil))))) .nil)))) (.app 14 (.cons (.var 0) (.cons (.var 1) (.cons (.int 1) .nil)))))
  .nil))
  (.cons (.asg (.nm 9) (.lst .nil))
  (.cons (.for (.nm 10) (.seq (.tup (.cons (.tup (.cons (.str (sL [98])) .nil)) (.cons (.tup (.cons (.str (sL [98])) (.cons (.str (sL [115])) .nil))) (.cons (.tup (.cons (.str (sL [107])) .nil)) (.cons (.tup (.cons (.str (sL [115])) .nil)) (.cons (.tup (.cons (.str (sL [115])) (.cons (.str (sL [116])) .nil))) (.cons (.tup (.cons (.str (sL [116])) .nil)) .nil)))))))) (.cons (.asg (.nm 9) (.bin .Add (.var 9) (.bin .Mult (.lst (.cons (.var 10) .nil)) (.blt .int (.cons (.cmp .Gt (.app 11 (.cons (.var 0) (.cons (.var 1) (.cons (.int 3) .nil)))) (.int 0)) .nil)))))
  .nil))
  (.cons (.asg (.nm 11) (.blt .tuple (.cons (.cpr (.tup (.cons (.var 12) (.cons (.idx (.var 4) (.var 12)) .nil))) (.nm 12) (.seq (.blt .sorted (.cons (.var 4) .nil))) .no [12]) .nil)))
  (.cons (.ret (.tup (.cons (.blt .tuple (.cons (.var 3) .nil)) (.cons (.blt .tuple (.cons (.var 6) .nil)) (.cons (.var 11) (.cons (.blt .tuple (.cons (.var 9) .nil)) (.cons (.app 13 .nil) .nil)))))))
  .nil)))))))))
def i__law_drawn_tongue : FnI := ⟨"_law_drawn_tongue", "_law_drawn_tongue", topS 23, ["script", "town", "whole", "sounds", "entries", "name", "rules", "k", "letter", "onsets", "one", "given", "word"], ["script", "town", "whole"], b__law_drawn_tongue⟩
theorem m__law_drawn_tongue : i__law_drawn_tongue.fn.nn - i__law_drawn_tongue.fn.np = 10 := rfl
/-- _law_drawn_word: 0 script, 1 town, 2 most, 3 found, 4 j -/
def b__law_drawn_word : Ss := (.cons (.asg (.nm 3) (.str (sL [])))
  (.cons (.for (.nm 4) (.rng (.cons (.bin .Add (.int 1) (.app 11 (.cons (.var 0) (.cons (.var 1) (.cons (.var 2) .nil))))) .nil)) (.cons (.asg (.nm 3) (.bin .Add (.var 3) (.app 12 (.cons (.var 0) (.cons (.var 1) (.cons (.lst (.cons (.str (sL [97])) (.cons (.str (sL [98])) (.cons (.str (sL [101])) (.cons (.str (sL [115])) (.cons (.str (sL [116])) .nil)))))) .nil))))))
  .nil))
  (.cons (.ret (.var 3))
  .nil)))
def i__law_drawn_word : FnI := ⟨"_law_drawn_word", "_law_drawn_word", topS 24, ["script", "town", "most", "found", "j"], ["script", "town", "most"], b__law_drawn_word⟩
theorem m__law_drawn_word : i__law_drawn_word.fn.nn - i__law_drawn_word.fn.np = 2 := rfl
/-- _law_stands: 0 rule, 1 word, 2 spot, 3 left, 4 letters, 5 right, 6 told, 7 end -/
def b__law_stands : Ss := (.cons (.asg (.tp (.cons (.nm 3) (.cons (.nm 4) (.cons (.nm 5) (.cons (.nm 6) .nil))))) (.var 0))
  (.cons (.asg (.nm 7) (.bin .Add (.var 2) (.blt .len (.cons (.var 4) .nil))))
  (.cons (.ite (.or (.cons (.val (.cmp .NotEq (.slc (.var 1) (.yes (.var 2)) (.yes (.var 7))) (.var 4))) (.cons (.and (.cons (.val (.cmp .Eq (.var 3) (.str (sL [94])))) (.one (.val (.cmp .Gt (.var 2) (.int 0)))))) (.one (.and (.cons (.val (.cmp .Eq (.var 5) (.str (sL [36])))) (.one (.val (.cmp .Lt (.var 7) (.blt .len (.cons (.var 1) .nil))))))))))) (.cons (.ret (.bl false))
  .nil) .nil)
  (.cons (.ite (.and (.cons (.val (.cmp .NotEq (.var 3) (.str (sL [94])))) (.one (.not (.val (.mth .endswith (.slc (.var 1) .no (.yes (.var 2))) (.cons (.var 3) .nil))))))) (.cons (.ret (.bl false))
  .nil) .nil)
  (.cons (.ret (.or (.cons (.cmp .Eq (.var 5) (.str (sL [36]))) (.cons (.mth .startswith (.slc (.var 1) (.yes (.var 7)) .no) (.cons (.var 5) .nil)) .nil))))
  .nil)))))
def i__law_stands : FnI := ⟨"_law_stands", "_law_stands", topS 25, ["rule", "word", "spot", "left", "letters", "right", "told", "end"], ["rule", "word", "spot"], b__law_stands⟩
theorem m__law_stands : i__law_stands.fn.nn - i__law_stands.fn.np = 5 := rfl
/-- _law_sounds: 0 tongue, 1 word, 2 given, 3 sounds, 4 spot, 5 numbers, 6 number, 7 rule -/
def b__law_sounds : Ss := (.cons (.asg (.nm 2) (.dct (.idx (.var 0) (.int 2))))
  (.cons (.ite (.val (.cmp .In (.var 1) (.var 2))) (.cons (.ret (.idx (.var 2) (.var 1)))
  .nil) .nil)
  (.cons (.par [3, 4] (.cons (.tup .nil) (.cons (.int 0) .nil)))
  (.cons (.whl (.val (.cmp .Lt (.var 4) (.blt .len (.cons (.var 1) .nil)))) (.cons (.asg (.nm 5) (.cpr (.var 6) (.tp (.cons (.nm 6) (.cons (.nm 7) .nil))) (.enu (.idx (.var 0) (.int 1))) (.yes (.val (.app 18 (.cons (.var 7) (.cons (.var 1) (.cons (.var 4) .nil)))))) [6, 7]))
  (.cons (.ite (.val (.cmp .Eq (.var 5) (.lst .nil))) (.cons (.ret .non)
  .nil) .nil)
  (.cons (.asg (.nm 3) (.bin .Add (.var 3) (.idx (.idx (.idx (.var 0) (.int 1)) (.idx (.var 5) (.int 0))) (.int 3))))
  (.cons (.asg (.nm 4) (.bin .Add (.var 4) (.blt .len (.cons (.idx (.idx (.idx (.var 0) (.int 1)) (.idx (.var 5) (.int 0))) (.int 1)) .nil))))
  .nil)))))
  (.cons (.ret (.var 3))
  .nil)))))
def i__law_sounds : FnI := ⟨"_law_sounds", "_law_sounds", topS 26, ["tongue", "word", "given", "sounds", "spot", "numbers", "number", "rule"], ["tongue", "word"], b__law_sounds⟩
theorem m__law_sounds : i__law_sounds.fn.nn - i__law_sounds.fn.np = 6 := rfl
/-- _law_drawn_lexicon: 0 script, 1 town, 2 tongue, 3 most, 4 found, 5 k, 6 word -/
def b__law_drawn_lexicon : Ss := (.cons (.asg (.nm 4) (.lst .nil))
  (.cons (.for (.nm 5) (.rng (.cons (.bin .Add (.int 1) (.app 11 (.cons (.var 0) (.cons (.var 1) (.cons (.var 3) .nil))))) .nil)) (.cons (.asg (.nm 6) (.app 17 (.cons (.var 0) (.cons (.var 1) (.cons (.int 3) .nil)))))
  (.cons (.ite (.and (.cons (.val (.cmp .NotIn (.var 6) (.var 4))) (.one (.val (.cmp .NotEq (.or (.cons (.app 19 (.cons (.var 2) (.cons (.var 6) .nil))) (.cons (.tup .nil) .nil))) (.tup .nil)))))) (.cons (.exp (.mut .append 4 (.cons (.var 6) .nil)))
  .nil) .nil)
  .nil)))
  (.cons (.ret (.blt .tuple (.cons (.blt .sorted (.cons (.var 4) .nil)) .nil)))
  .nil)))
def i__law_drawn_lexicon : FnI := ⟨"_law_drawn_lexicon", "_law_drawn_lexicon", topS 27, ["script", "town", "tongue", "most", "found", "k", "word"], ["script", "town", "tongue", "most"], b__law_drawn_lexicon⟩
theorem m__law_drawn_lexicon : i__law_drawn_lexicon.fn.nn - i__law_drawn_lexicon.fn.np = 3 := rfl
/-- _law_change: 0 one, 1 other, 2 row_price, 3 full, 4 swap, 5 ways -/
def b__law_change : Ss := (.cons (.asg (.nm 3) (.tup (.cons (.str (sL [97])) (.cons (.str (sL [101])) (.cons (.str (sL [111])) .nil)))))
  (.cons (.ite (.or (.cons (.val (.cmp .Eq (.var 0) (.tup .nil))) (.one (.val (.cmp .Eq (.var 1) (.tup .nil)))))) (.cons (.ret (.bin .Mult (.var 2) (.bin .Add (.blt .len (.cons (.var 0) .nil)) (.blt .len (.cons (.var 1) .nil)))))
  .nil) .nil)
  (.cons (.ite (.val (.cmp .Eq (.idx (.var 0) (.int 0)) (.idx (.var 1) (.int 0)))) (.cons (.asg (.nm 4) (.int 0))
  .nil) (.cons (.asg (.nm 4) (.ite (.val (.cmp .Eq (.cmp .In (.idx (.var 0) (.int 0)) (.var 3)) (.cmp .In (.idx (.var 1) (.int 0)) (.var 3)))) (.int 1) (.int 2)))
  .nil))
  (.cons (.asg (.nm 5) (.lst (.cons (.bin .Add (.app 21 (.cons (.slc (.var 0) (.yes (.int 1)) .no) (.cons (.slc (.var 1) (.yes (.int 1)) .no) (.cons (.var 2) .nil)))) (.var 4)) (.cons (.bin .Add (.app 21 (.cons (.slc (.var 0) (.yes (.int 1)) .no) (.cons (.var 1) (.cons (.var 2) .nil)))) (.var 2)) .nil))))
  (.cons (.ret (.blt .min (.cons (.bin .Add (.var 5) (.lst (.cons (.bin .Add (.app 21 (.cons (.var 0) (.cons (.slc (.var 1) (.yes (.int 1)) .no) (.cons (.var 2) .nil)))) (.var 2)) .nil))) .nil)))
  .nil)))))
def i__law_change : FnI := ⟨"_law_change", "_law_change", topS 28, ["one", "other", "row_price", "full", "swap", "ways"], ["one", "other", "row_price"], b__law_change⟩
theorem m__law_change : i__law_change.fn.nn - i__law_change.fn.np = 3 := rfl
/-- _law_slip: 0 table, 1 row, 2 row_price, 3 best, 4 rows, 5 longer, 6 words, 7 sounds, 8 key, 9 word -/
def b__law_slip : Ss := (.cons (.par [3, 4] (.cons .non (.cons (.lst (.cons (.tup (.cons (.tup .nil) (.cons (.tup .nil) .nil))) .nil)) .nil)))
  (.cons (.whl (.val (.var 4)) (.cons (.asg (.nm 5) (.lst .nil))
  (.cons (.for (.tp (.cons (.nm 6) (.cons (.nm 7) .nil))) (.seq (.var 4)) (.cons (.asg (.nm 8) (.tup (.cons (.app 21 (.cons (.var 7) (.cons (.var 1) (.cons (.var 2) .nil)))) (.cons (.var 6) .nil))))
  (.cons (.asg (.nm 3) (.ite (.or (.cons (.val (.cmp .Is (.var 3) .non)) (.one (.val (.cmp .Lt (.var 8) (.var 3)))))) (.var 8) (.var 3)))
  (.cons (.for (.nm 9) (.kys 0) (.cons (.ite (.val (.cmp .LtE (.bin .Add (.blt .len (.cons (.var 7) .nil)) (.blt .len (.cons (.tix 0 (.var 9)) .nil))) (.bin .Mult (.int 2) (.blt .len (.cons (.var 1) .nil))))) (.cons (.exp (.mut .append 5 (.cons (.tup (.cons (.bin .Add (.var 6) (.tup (.cons (.var 9) .nil))) (.cons (.bin .Add (.var 7) (.tix 0 (.var 9))) .nil))) .nil)))
  .nil) .nil)
  .nil))
  .nil))))
  (.cons (.asg (.nm 4) (.var 5))
  .nil))))
  (.cons (.ret (.var 3))
  .nil)))
def i__law_slip : FnI := ⟨"_law_slip", "_law_slip", topS 29, ["table", "row", "row_price", "best", "rows", "longer", "words", "sounds", "key", "word"], ["table", "row", "row_price"], b__law_slip⟩
theorem m__law_slip : i__law_slip.fn.nn - i__law_slip.fn.np = 7 := rfl
/-- law: 0 script, 1 town, 2 k, 3 tongue, 4 lexicon, 5 table, 6 word, 7 row, 8 j, 9 row_price -/
def b_law : Ss := (.cons (.asg (.nm 1) (.lst .nil))
  (.cons (.for (.nm 2) (.rng (.cons (.int 3) .nil)) (.cons (.asg (.nm 3) (.app 16 (.cons (.var 0) (.cons (.var 1) (.cons (.bl true) .nil)))))
  (.cons (.par [4, 5] (.cons (.app 20 (.cons (.var 0) (.cons (.var 1) (.cons (.var 3) (.cons (.int 2) .nil))))) (.cons .dnew .nil)))
  (.cons (.for (.nm 6) (.seq (.var 4)) (.cons (.set (.var 5) (.var 6) (.app 19 (.cons (.var 3) (.cons (.var 6) .nil))))
  .nil))
  (.cons (.asg (.nm 7) (.blt .tuple (.cons (.cpr (.app 12 (.cons (.var 0) (.cons (.var 1) (.cons (.lst (.cons (.str (sL [97])) (.cons (.str (sL [101])) (.cons (.str (sL [98])) (.cons (.str (sL [115])) .nil))))) .nil)))) (.nm 8) (.rng (.cons (.app 11 (.cons (.var 0) (.cons (.var 1) (.cons (.int 4) .nil)))) .nil)) .no [8]) .nil)))
  (.cons (.asg (.nm 9) (.bin .Add (.int 1) (.app 11 (.cons (.var 0) (.cons (.var 1) (.cons (.int 2) .nil))))))
  (.cons (.ite (.not (.val (.app 10 (.cons (.app 9 (.cons (.var 3) (.cons (.var 4) (.cons (.var 7) (.cons (.var 9) .nil))))) (.cons (.app 22 (.cons (.var 5) (.cons (.var 7) (.cons (.var 9) .nil)))) .nil))))) (.cons (.ret (.bl false))
  .nil) .nil)
  .nil)))))))
  (.cons (.ret (.bl true))
  .nil)))
def i_law : FnI := ⟨"law", "law", topS 30, ["script", "town", "k", "tongue", "lexicon", "table", "word", "row", "j", "row_price"], ["script"], b_law⟩
theorem m_law : i_law.fn.nn - i_law.fn.np = 9 := rfl
def exn : List Str := ["NoRule"]
def exp : List Nat := [0]
def ini_NoRule : Stmt := match topS 2 with | .ClassDef _ _ _ b _ _ _ _ _ _ _ => b.getD 0 (.Pass ⟨0, 0, 0, 0⟩) | _ => .Pass ⟨0, 0, 0, 0⟩
theorem sci_NoRule : FnScope ["self", "place"] ["self", "place"] (defScope ini_NoRule) := ⟨rfl, rfl, rfl, by decide +kernel, rfl, by decide +kernel, by decide +kernel⟩
abbrev x_NoRule : Nat := 0
def tab : List FnI := [i_full_names, i_stands, i_listed, i_by_rules, i_said_by_rules, i_said, i_all_said, i_unlikeness, i_distances, i_slip, i__law_same, i__law_draw, i__law_pick, i__law_words, i__law_drawn_told, i__law_drawn_rule, i__law_drawn_tongue, i__law_drawn_word, i__law_stands, i__law_sounds, i__law_drawn_lexicon, i__law_change, i__law_slip, i_law]
def gls : List Str := []
def glD : List D := []
def G : Pg := { fns := tab.map FnI.fn, gl := fun n => glD[n]?, fuel := 100000 }
abbrev n_full_names : Nat := 0
abbrev n_stands : Nat := 1
abbrev n_listed : Nat := 2
abbrev n_by_rules : Nat := 3
abbrev n_said_by_rules : Nat := 4
abbrev n_said : Nat := 5
abbrev n_all_said : Nat := 6
abbrev n_unlikeness : Nat := 7
abbrev n_distances : Nat := 8
abbrev n_slip : Nat := 9
abbrev n__law_same : Nat := 10
abbrev n__law_draw : Nat := 11
abbrev n__law_pick : Nat := 12
abbrev n__law_words : Nat := 13
abbrev n__law_drawn_told : Nat := 14
abbrev n__law_drawn_rule : Nat := 15
abbrev n__law_drawn_tongue : Nat := 16
abbrev n__law_drawn_word : Nat := 17
abbrev n__law_stands : Nat := 18
abbrev n__law_sounds : Nat := 19
abbrev n__law_drawn_lexicon : Nat := 20
abbrev n__law_change : Nat := 21
abbrev n__law_slip : Nat := 22
abbrev n_law : Nat := 23
theorem sc_full_names : FnScope i_full_names.N i_full_names.ps (defScope i_full_names.st) := ⟨rfl, rfl, rfl, by decide +kernel, rfl, by decide +kernel, by decide +kernel⟩
theorem lk_full_names : i_full_names.look gls exn exp tab = true := by decide +kernel
theorem sc_stands : FnScope i_stands.N i_stands.ps (defScope i_stands.st) := ⟨rfl, rfl, rfl, by decide +kernel, rfl, by decide +kernel, by decide +kernel⟩
theorem lk_stands : i_stands.look gls exn exp tab = true := by decide +kernel
theorem sc_listed : FnScope i_listed.N i_listed.ps (defScope i_listed.st) := ⟨rfl, rfl, rfl, by decide +kernel, rfl, by decide +kernel, by decide +kernel⟩
theorem lk_listed : i_listed.look gls exn exp tab = true := by decide +kernel
theorem sc_by_rules : FnScope i_by_rules.N i_by_rules.ps (defScope i_by_rules.st) := ⟨rfl, rfl, rfl, by decide +kernel, rfl, by decide +kernel, by decide +kernel⟩
theorem lk_by_rules : i_by_rules.look gls exn exp tab = true := by decide +kernel
theorem sc_said_by_rules : FnScope i_said_by_rules.N i_said_by_rules.ps (defScope i_said_by_rules.st) := ⟨rfl, rfl, rfl, by decide +kernel, rfl, by decide +kernel, by decide +kernel⟩
theorem lk_said_by_rules : i_said_by_rules.look gls exn exp tab = true := by decide +kernel
theorem sc_said : FnScope i_said.N i_said.ps (defScope i_said.st) := ⟨rfl, rfl, rfl, by decide +kernel, rfl, by decide +kernel, by decide +kernel⟩
theorem lk_said : i_said.look gls exn exp tab = true := by decide +kernel
theorem sc_all_said : FnScope i_all_said.N i_all_said.ps (defScope i_all_said.st) := ⟨rfl, rfl, rfl, by decide +kernel, rfl, by decide +kernel, by decide +kernel⟩
theorem lk_all_said : i_all_said.look gls exn exp tab = true := by decide +kernel
theorem sc_unlikeness : FnScope i_unlikeness.N i_unlikeness.ps (defScope i_unlikeness.st) := ⟨rfl, rfl, rfl, by decide +kernel, rfl, by decide +kernel, by decide +kernel⟩
theorem lk_unlikeness : i_unlikeness.look gls exn exp tab = true := by decide +kernel
theorem sc_distances : FnScope i_distances.N i_distances.ps (defScope i_distances.st) := ⟨rfl, rfl, rfl, by decide +kernel, rfl, by decide +kernel, by decide +kernel⟩
theorem lk_distances : i_distances.look gls exn exp tab = true := by decide +kernel
theorem sc_slip : FnScope i_slip.N i_slip.ps (defScope i_slip.st) := ⟨rfl, rfl, rfl, by decide +kernel, rfl, by decide +kernel, by decide +kernel⟩
theorem lk_slip : i_slip.look gls exn exp tab = true := by decide +kernel
theorem sc__law_same : FnScope i__law_same.N i__law_same.ps (defScope i__law_same.st) := ⟨rfl, rfl, rfl, by decide +kernel, rfl, by decide +kernel, by decide +kernel⟩
theorem lk__law_same : i__law_same.look gls exn exp tab = true := by decide +kernel
theorem sc__law_draw : FnScope i__law_draw.N i__law_draw.ps (defScope i__law_draw.st) := ⟨rfl, rfl, rfl, by decide +kernel, rfl, by decide +kernel, by decide +kernel⟩
theorem lk__law_draw : i__law_draw.look gls exn exp tab = true := by decide +kernel
theorem sc__law_pick : FnScope i__law_pick.N i__law_pick.ps (defScope i__law_pick.st) := ⟨rfl, rfl, rfl, by decide +kernel, rfl, by decide +kernel, by decide +kernel⟩
theorem lk__law_pick : i__law_pick.look gls exn exp tab = true := by decide +kernel
theorem sc__law_words : FnScope i__law_words.N i__law_words.ps (defScope i__law_words.st) := ⟨rfl, rfl, rfl, by decide +kernel, rfl, by decide +kernel, by decide +kernel⟩
theorem lk__law_words : i__law_words.look gls exn exp tab = true := by decide +kernel
theorem sc__law_drawn_told : FnScope i__law_drawn_told.N i__law_drawn_told.ps (defScope i__law_drawn_told.st) := ⟨rfl, rfl, rfl, by decide +kernel, rfl, by decide +kernel, by decide +kernel⟩
theorem lk__law_drawn_told : i__law_drawn_told.look gls exn exp tab = true := by decide +kernel
theorem sc__law_drawn_rule : FnScope i__law_drawn_rule.N i__law_drawn_rule.ps (defScope i__law_drawn_rule.st) := ⟨rfl, rfl, rfl, by decide +kernel, rfl, by decide +kernel, by decide +kernel⟩
theorem lk__law_drawn_rule : i__law_drawn_rule.look gls exn exp tab = true := by decide +kernel
theorem sc__law_drawn_tongue : FnScope i__law_drawn_tongue.N i__law_drawn_tongue.ps (defScope i__law_drawn_tongue.st) := ⟨rfl, rfl, rfl, by decide +kernel, rfl, by decide +kernel, by decide +kernel⟩
theorem lk__law_drawn_tongue : i__law_drawn_tongue.look gls exn exp tab = true := by decide +kernel
theorem sc__law_drawn_word : FnScope i__law_drawn_word.N i__law_drawn_word.ps (defScope i__law_drawn_word.st) := ⟨rfl, rfl, rfl, by decide +kernel, rfl, by decide +kernel, by decide +kernel⟩
theorem lk__law_drawn_word : i__law_drawn_word.look gls exn exp tab = true := by decide +kernel
theorem sc__law_stands : FnScope i__law_stands.N i__law_stands.ps (defScope i__law_stands.st) := ⟨rfl, rfl, rfl, by decide +kernel, rfl, by decide +kernel, by decide +kernel⟩
theorem lk__law_stands : i__law_stands.look gls exn exp tab = true := by decide +kernel
theorem sc__law_sounds : FnScope i__law_sounds.N i__law_sounds.ps (defScope i__law_sounds.st) := ⟨rfl, rfl, rfl, by decide +kernel, rfl, by decide +kernel, by decide +kernel⟩
theorem lk__law_sounds : i__law_sounds.look gls exn exp tab = true := by decide +kernel
theorem sc__law_drawn_lexicon : FnScope i__law_drawn_lexicon.N i__law_drawn_lexicon.ps (defScope i__law_drawn_lexicon.st) := ⟨rfl, rfl, rfl, by decide +kernel, rfl, by decide +kernel, by decide +kernel⟩
theorem lk__law_drawn_lexicon : i__law_drawn_lexicon.look gls exn exp tab = true := by decide +kernel
theorem sc__law_change : FnScope i__law_change.N i__law_change.ps (defScope i__law_change.st) := ⟨rfl, rfl, rfl, by decide +kernel, rfl, by decide +kernel, by decide +kernel⟩
theorem lk__law_change : i__law_change.look gls exn exp tab = true := by decide +kernel
theorem sc__law_slip : FnScope i__law_slip.N i__law_slip.ps (defScope i__law_slip.st) := ⟨rfl, rfl, rfl, by decide +kernel, rfl, by decide +kernel, by decide +kernel⟩
theorem lk__law_slip : i__law_slip.look gls exn exp tab = true := by decide +kernel
theorem sc_law : FnScope i_law.N i_law.ps (defScope i_law.st) := ⟨rfl, rfl, rfl, by decide +kernel, rfl, by decide +kernel, by decide +kernel⟩
theorem lk_law : i_law.look gls exn exp tab = true := by decide +kernel
end Lw
namespace Lw
open PySem Rf
set_option maxHeartbeats 4000000
/-! draws -/
abbrev Sd (ns : List Int) : D := .list (ns.map .int)
abbrev EV (ns : List Int) (ts : List D) (r : En) : En := some (.dat (Sd ns)) :: some (.lst ts) :: r
theorem pick_s (k : Nat) {ns : List Int} (hn : ns.length ≤ 63) {ts xs : List D} (hT : Town ts) (hl : ts.length ≤ 1000000) (h0 : 0 < xs.length) (h1 : xs.length ≤ 1000) :
    ∃ x ts', x ∈ xs ∧ callF G (k + 2) n__law_pick [.dat (Sd ns), .lst ts, .dat (.list xs)] = .ok (.dat x) [.dat (Sd ns), .lst ts', .dat (.list xs)] ∧ Town ts' ∧ ts'.length ≤ ts.length + 2 := by
  obtain ⟨r, ts', d, r0, r1, T', L'⟩ := ev_draw (G := G) (f := n__law_draw) (k := k) (a := 0) (b := 1) (M := { call := callF G (k + 1), pin := pinsOf 0 [.dat (Sd ns), .lst ts, .dat (.list xs)], gl := G.gl, fuel := G.fuel }) (env := [some (.dat (Sd ns)), some (.lst ts), some (.dat (.list xs))]) (m := (xs.length : Int)) rfl rfl rfl rfl hT hn (by omega) (by omega) (ev_blt1 (ev_var (i := 2) rfl) vw_dat blt_lenL)
  have hr : r.toNat < xs.length := by omega
  refine ⟨xs[r.toNat], ts', List.getElem_mem hr, ?_, T', L'⟩
  exact call_rt (F := i__law_pick.fn) rfl rfl (env := [some (.dat (Sd ns)), some (.lst ts'), some (.dat (.list xs))]) (ss_rt (st_ret (ev_idx (ev_var rfl) d vw_dat vw_dat (idx_L r0 (List.getElem?_eq_getElem hr))) out_dat)) rfl
def strEs : List Str → Es
  | [] => .nil
  | z :: r => .cons (.str z) (strEs r)
theorem evDs_strs {M : Mach} {env : En} : ∀ l : List Str, EvDs M (strEs l) env (l.map .str) env
  | [] => evDs_nil
  | _ :: r => evDs_cons ev_str frz_dat (evDs_strs r)
/-- a display of texts -/
theorem ev_strs {M : Mach} {env : En} (l : List Str) (h : l.length ≤ 1000) : Ev M (.lst (strEs l)) env (.tl (l.map .str)) env := ev_lst (evDs_strs l) (sizeOk_of (by simp; omega))
/-- a pick of a list -/
theorem ev_pickT {k : Nat} {M : Mach} {r : En} {ns : List Int} {ts xs : List D} {e : E} (hM : M.call = callF G (k + 2)) (hT : Town ts) (hn : ns.length ≤ 63) (hl : ts.length ≤ 1000000) (he : Ev M e (EV ns ts r) (.tl xs) (EV ns ts r)) (h0 : 0 < xs.length) (h1 : xs.length ≤ 1000) :
    ∃ x ts', x ∈ xs ∧ Ev M (.app n__law_pick (.cons (.var 0) (.cons (.var 1) (.cons e .nil)))) (EV ns ts r) (.dat x) (EV ns ts' r) ∧ Town ts' ∧ ts'.length ≤ ts.length + 2 := by
  obtain ⟨x, ts', hx, h, h2, h3⟩ := pick_s k hn hT hl h0 h1
  refine ⟨x, ts', hx, ?_, h2, h3⟩
  have := ev_app (M := M) (f := n__law_pick) (evA_cons (ev_var (i := 0) (env := EV ns ts r) rfl) (evA_cons (ev_plc (i := 1) (env := EV ns ts r) rfl) (evA_cons he evA_nil))) (by simp [norm, slot, places, nodupB]) (by simp only [List.map, norm, slot, argsS, argS, Option.bind_some, Option.map_some]) (hM ▸ h)
  simpa [norm, slot, backS] using this
/-- .. held by a name as data -/
theorem ev_pickD {k i : Nat} {M : Mach} {r : En} {ns : List Int} {ts xs : List D} (hM : M.call = callF G (k + 2)) (hT : Town ts) (hn : ns.length ≤ 63) (hl : ts.length ≤ 1000000) (he : slot (EV ns ts r) i = some (.dat (.list xs))) (h0 : 0 < xs.length) (h1 : xs.length ≤ 1000) :
    ∃ x ts', x ∈ xs ∧ Ev M (.app n__law_pick (.cons (.var 0) (.cons (.var 1) (.cons (.var i) .nil)))) (EV ns ts r) (.dat x) (EV ns ts' r) ∧ Town ts' ∧ ts'.length ≤ ts.length + 2 := by
  obtain ⟨x, ts', hx, h, h2, h3⟩ := pick_s k hn hT hl h0 h1
  refine ⟨x, ts', hx, ?_, h2, h3⟩
  have := ev_app (M := M) (f := n__law_pick) (evA_cons (ev_var (i := 0) (env := EV ns ts r) rfl) (evA_cons (ev_plc (i := 1) (env := EV ns ts r) rfl) (evA_cons (ev_var (i := i) he) evA_nil))) (by simp [norm, slot, places, nodupB]) (by simp only [List.map, norm, slot, argsS, argS, Option.bind_some, Option.map_some]) (hM ▸ h)
  simpa [norm, slot, backS] using this
theorem ev_drawT {k : Nat} {M : Mach} {r : En} {ns : List Int} {ts : List D} {m : Int} {e : E} (hM : M.call = callF G (k + 1)) (hT : Town ts) (hn : ns.length ≤ 63) (hl : ts.length ≤ 1000000) (hm : 0 < m) (he : Ev M e (EV ns ts r) (.dat (.int m)) (EV ns ts r)) :
    ∃ (q : Int) (ts' : List D), Ev M (.app n__law_draw (.cons (.var 0) (.cons (.var 1) (.cons e .nil)))) (EV ns ts r) (.dat (.int q)) (EV ns ts' r) ∧ 0 ≤ q ∧ q < m ∧ Town ts' ∧ ts'.length ≤ ts.length + 2 :=
  ev_draw (G := G) (f := n__law_draw) (k := k) (a := 0) (b := 1) (M := M) (env := EV ns ts r) (m := m) hM rfl rfl rfl hT hn (by omega) hm he
theorem wipe_wipe (env : En) (own : List Nat) : wipeE (wipeE env own) own = wipeE env own := by
  apply List.ext_getElem?
  intro j
  simp only [wipe_get, wipe_len]
  split
  · rfl
  · rfl
/-- a comprehension that draws -/
theorem ev_cprT {α : Type} (f : α → D) (P : α → Prop) {M : Mach} {e : E} {t : Tg} {it : Itr} {own : List Nat} {ns : List Int} {ts1 : List D} {r env : En} {xs : List D} (c B : Nat) (hi : EvI M it env xs (EV ns ts1 r)) (hT : Town ts1) (hB : ts1.length + c * xs.length ≤ B) (hn : xs.length ≤ 16777216)
    (ho : ∀ v ∈ own, 2 ≤ v)
    (hs : ∀ x ∈ xs, ∀ ts, Town ts → ts.length ≤ B → ∃ a ts' e', cB M e t .no x (wipeE (EV ns ts r) own) = .ok (some (f a), e') ∧ wipeE e' own = wipeE (EV ns ts' r) own ∧ P a ∧ Town ts' ∧ ts'.length ≤ ts.length + c) :
    ∃ (as : List α) (ts' : List D), Ev M (.cpr e t it .no own) env (.tl (as.map f)) (EV ns ts' r) ∧ as.length = xs.length ∧ (∀ a ∈ as, P a) ∧ Town ts' ∧ ts'.length ≤ ts1.length + c * xs.length := by
  obtain ⟨acc', e6, h1, ts2, as, h2, h3, h4, h5, h6, h7⟩ := loopC_inv (own := own) (f := cB M e t .no) (fun i acc w => ∃ (ts : List D) (as : List α), w = wipeE (EV ns ts r) own ∧ acc = as.map f ∧ as.length = i ∧ (∀ a ∈ as, P a) ∧ Town ts ∧ ts.length ≤ ts1.length + c * i) xs 0 [] (wipeE (EV ns ts1 r) own)
    ⟨ts1, [], wipe_wipe _ _, rfl, rfl, by simp, hT, by omega⟩ (by simp) (by omega) (by
      rintro j x acc w hx ⟨ts, as, rfl, rfl, hl, hP, hT, hL⟩
      have hj := (List.getElem?_eq_some_iff.1 hx).1
      have hc : c * (0 + j) + c ≤ c * xs.length := by
        rw [← Nat.mul_succ]; exact Nat.mul_le_mul_left _ (by omega)
      obtain ⟨a, ts', e', g1, g2, g3, g4, g5⟩ := hs x (List.mem_of_getElem? hx) ts hT (by omega)
      refine ⟨some (f a), e', g1, ts', as ++ [a], g2, by simp, by simp [hl], ?_, g4, ?_⟩
      · intro b hb
        rcases List.mem_append.1 hb with hb | hb
        · exact hP b hb
        · simp at hb; subst hb; exact g3
      · rw [show 0 + j + 1 = (0 + j).succ from rfl, Nat.mul_succ]; omega)
  refine ⟨as, ts2, ⟨?_⟩, by simpa using h4, h5, h6, by simpa using h7⟩
  simp only [evE, hi.eq, R.bind_ok]
  show (R.bind (loopC (fun x env => cB M e t .no x (wipeE env own)) xs [] (wipeE (EV ns ts1 r) own)) _) = _
  rw [h1, R.bind_ok, h3]
  have : backE e6 (EV ns ts1 r) own = EV ns ts2 r := by
    refine back_of (e2 := EV ns ts2 r) h2 fun v hv => ?_
    have := ho v hv
    match v, this with
    | v + 2, _ => rfl
  rw [this]
/-- a for that draws: the rest of the slots by a relation -/
theorem forT {β : Type} (E : β → En) {M : Mach} {t : Tg} {b : Ss} {ns : List Int} (c : Nat) (xs : List D) (P : Nat → β → Prop) {ts : List D} {s : β} (hT : Town ts) (h0 : P 0 s)
    (hs : ∀ (j : Nat) (x : D) (s : β) (ts' : List D), xs[j]? = some x → P j s → Town ts' → ts'.length ≤ ts.length + c * j → ∃ e1 s' ts2, asgD M t x (EV ns ts' (E s)) = some e1 ∧ (exSs M b e1 = .nx (EV ns ts2 (E s')) ∨ exSs M b e1 = .ct (EV ns ts2 (E s'))) ∧ P (j + 1) s' ∧ Town ts2 ∧ ts2.length ≤ ts'.length + c) :
    ∃ s' ts', forF M t (exSs M b) xs (EV ns ts (E s)) = .nx (EV ns ts' (E s')) ∧ P xs.length s' ∧ Town ts' ∧ ts'.length ≤ ts.length + c * xs.length := by
  obtain ⟨e', h, s', ts', rfl, h1, h2, h3⟩ := forF_inv (M := M) (t := t) (b := exSs M b) (fun i env => ∃ s ts', env = EV ns ts' (E s) ∧ P i s ∧ Town ts' ∧ ts'.length ≤ ts.length + c * i) xs 0 (EV ns ts (E s)) ⟨s, ts, rfl, h0, hT, by omega⟩ (by
    rintro j x env hx ⟨s, ts', rfl, hP, hT, hL⟩
    obtain ⟨e1, s', ts2, g1, g2, g3, g4, g5⟩ := hs j x s ts' hx (by simpa using hP) hT (by simpa using hL)
    refine ⟨e1, _, g1, g2, s', ts2, rfl, by simpa using g3, g4, ?_⟩
    rw [show 0 + j + 1 = (0 + j).succ from rfl, Nat.mul_succ]
    omega)
  exact ⟨s', ts', h, by simpa using h1, h2, by simpa using h3⟩

/-! tongues -/
def tolD (w : List Str) : D := .tuple (w.map .str)
def SN : List Str := [sL [97], sL [101], sL [111], sL [98], sL [107], sL [115], sL [116]]
theorem told_s (k : Nat) {ns : List Int} (hn : ns.length ≤ 63) {ts : List D} (hT : Town ts) (hl : ts.length ≤ 100000) {l : Int} (h0 : 0 ≤ l) (h1 : l ≤ 5) :
    ∃ w ts', callF G (k + 3) n__law_drawn_told [.dat (Sd ns), .lst ts, .dat (.int l)] = .ok (.dat (tolD w)) [.dat (Sd ns), .lst ts', .dat (.int l)] ∧ (∀ z ∈ w, z ∈ SN) ∧ l ≤ (w.length : Int) ∧ (w.length : Int) ≤ l + 2 ∧ Town ts' ∧ ts'.length ≤ ts.length + 20 := by
  let M : Mach := { call := callF G (k + 2), pin := pinsOf 0 [.dat (Sd ns), .lst ts, .dat (.int l)], gl := G.gl, fuel := G.fuel }
  obtain ⟨q, ts1, d1, q0, q1, T1, L1⟩ := ev_drawT (k := k + 1) (M := M) (r := [some (.dat (.int l)), none, none]) (m := 3) rfl hT hn (by omega) (by omega) ev_int
  obtain ⟨w, ts2, d2, h2, hw, T2, L2⟩ := ev_cprT (M := M) (e := .app n__law_pick (.cons (.var 0) (.cons (.var 1) (.cons (.lst (strEs SN)) .nil)))) (t := .nm 4) (own := [4]) (ns := ns) (r := [some (.dat (.int l)), some (.dat (.int (l + q))), none])
    PyData.str (fun z => z ∈ SN) 2 200000 (evI_rng1 (e := .var 3) (M := M) (j := l + q) (ev_var (i := 3) rfl) (by omega) (by omega)) T1 (by simp; omega) (by simp; omega) (by simp) (by
      intro x _ tt hTt hLt
      obtain ⟨y, tt', hy, d, T', L'⟩ := ev_pickT (k := k) (M := M) (r := [some (.dat (.int l)), some (.dat (.int (l + q))), some (.dat x)]) (xs := SN.map .str) rfl hTt hn (by omega) (ev_strs SN (by decide)) (by simp [SN]) (by simp [SN])
      obtain ⟨z, hz, rfl⟩ := List.mem_map.1 hy
      exact ⟨z, tt', _, cB_some rfl evOt_no d frz_dat, rfl, hz, T', L'⟩)
  have hlen : (w.length : Int) = l + q := by rw [h2]; simp; omega
  refine ⟨w, ts2, ?_, hw, by omega, by omega, T2, ?_⟩
  · refine call_rt (F := i__law_drawn_told.fn) rfl rfl (env := EV ns ts2 [some (.dat (.int l)), some (.dat (.int (l + q))), none]) ?_ rfl
    refine ss_nx (st_asg (ev_bin (ev_var rfl) d1 vw_dat vw_dat bin_add) own_dat rfl) ?_
    exact ss_rt (st_ret (ev_blt1 d2 vw_tl blt_tupL) out_dat)
  · simp at L2; omega
structure Rul where
  l : Str
  m : Str
  r : Str
  t : List Str
def Rul.d (x : Rul) : D := .tuple [.str x.l, .str x.m, .str x.r, tolD x.t]
def RM : List Str := [sL [97], sL [98], sL [101], sL [115], sL [116], sL [97, 98], sL [115, 116], sL [116, 97], sL [115, 116, 97]]
def RL : List Str := [sL [], sL [], sL [94], sL [97], sL [115], sL [116, 97]]
def RR : List Str := [sL [], sL [], sL [36], sL [101], sL [116], sL [97, 116]]
structure Rul.ok (x : Rul) : Prop where
  l : x.l ∈ RL
  m : x.m ∈ RM
  r : x.r ∈ RR
  t : ∀ z ∈ x.t, z ∈ SN
  n : x.t.length ≤ 2
theorem ev_appT {M : Mach} {r : En} {ns : List Int} {ts ts' : List D} {f : Nat} {d : D} (hc : M.call f [.dat (Sd ns), .lst ts] = .ok (.dat d) [.dat (Sd ns), .lst ts']) : Ev M (.app f (.cons (.var 0) (.cons (.var 1) .nil))) (EV ns ts r) (.dat d) (EV ns ts' r) := by
  have := ev_app (M := M) (f := f) (evA_cons (ev_var (i := 0) (env := EV ns ts r) rfl) (evA_cons (ev_plc (i := 1) (env := EV ns ts r) rfl) evA_nil)) (by simp [norm, slot, places, nodupB]) (by simp only [List.map, norm, slot, argsS, argS, Option.bind_some, Option.map_some]) hc
  simpa [norm, slot, backS] using this
theorem ev_appT1 {M : Mach} {r : En} {ns : List Int} {ts ts' : List D} {f : Nat} {e : E} {x d : D} {o : Sv} (he : Ev M e (EV ns ts r) (.dat x) (EV ns ts r)) (hc : M.call f [.dat (Sd ns), .lst ts, .dat x] = .ok (.dat d) [.dat (Sd ns), .lst ts', o]) : Ev M (.app f (.cons (.var 0) (.cons (.var 1) (.cons e .nil)))) (EV ns ts r) (.dat d) (EV ns ts' r) := by
  have := ev_app (M := M) (f := f) (evA_cons (ev_var (i := 0) (env := EV ns ts r) rfl) (evA_cons (ev_plc (i := 1) (env := EV ns ts r) rfl) (evA_cons he evA_nil))) (by simp [norm, slot, places, nodupB]) (by simp only [List.map, norm, slot, argsS, argS, Option.bind_some, Option.map_some]) hc
  simpa [norm, slot, backS] using this
theorem rule_s (k : Nat) {ns : List Int} (hn : ns.length ≤ 63) {ts : List D} (hT : Town ts) (hl : ts.length ≤ 10000) :
    ∃ x ts', callF G (k + 4) n__law_drawn_rule [.dat (Sd ns), .lst ts] = .ok (.dat (Rul.d x)) [.dat (Sd ns), .lst ts'] ∧ Rul.ok x ∧ Town ts' ∧ ts'.length ≤ ts.length + 26 := by
  let M : Mach := { call := callF G (k + 3), pin := pinsOf 0 [.dat (Sd ns), .lst ts], gl := G.gl, fuel := G.fuel }
  obtain ⟨y1, ts1, hy1, d1, T1, L1⟩ := ev_pickT (k := k + 1) (M := M) (r := [none, none, none]) (xs := RM.map .str) rfl hT hn (by omega) (ev_strs RM (by decide)) (by simp [RM]) (by simp [RM])
  obtain ⟨z1, hz1, rfl⟩ := List.mem_map.1 hy1
  obtain ⟨y2, ts2, hy2, d2, T2, L2⟩ := ev_pickT (k := k + 1) (M := M) (r := [some (.dat (.str z1)), none, none]) (xs := RL.map .str) rfl T1 hn (by omega) (ev_strs RL (by decide)) (by simp [RL]) (by simp [RL])
  obtain ⟨z2, hz2, rfl⟩ := List.mem_map.1 hy2
  obtain ⟨y3, ts3, hy3, d3, T3, L3⟩ := ev_pickT (k := k + 1) (M := M) (r := [some (.dat (.str z1)), some (.dat (.str z2)), none]) (xs := RR.map .str) rfl T2 hn (by omega) (ev_strs RR (by decide)) (by simp [RR]) (by simp [RR])
  obtain ⟨z3, hz3, rfl⟩ := List.mem_map.1 hy3
  obtain ⟨w, ts4, h4, hw, w0, w1, T4, L4⟩ := told_s k hn T3 (by omega) (l := 0) (by omega) (by omega)
  refine ⟨⟨z2, z1, z3, w⟩, ts4, ?_, ⟨hz2, hz1, hz3, hw, by simp; omega⟩, T4, by omega⟩
  refine call_rt (F := i__law_drawn_rule.fn) rfl rfl (env := EV ns ts4 [some (.dat (.str z1)), some (.dat (.str z2)), some (.dat (.str z3))]) ?_ rfl
  refine ss_nx (st_asg d1 own_dat rfl) (ss_nx (st_asg d2 own_dat rfl) (ss_nx (st_asg d3 own_dat rfl) (ss_rt (st_ret (ev_tup (evDs_cons (ev_var rfl) frz_dat (evDs_cons (ev_var rfl) frz_dat (evDs_cons (ev_var rfl) frz_dat (evDs_cons (ev_appT1 ev_int h4) frz_dat evDs_nil)))) (sizeOk_of (by simp))) out_dat))))

/-! dicts as states -/
theorem ev_dnew {M : Mach} {env : En} : Ev M .dnew env (.td []) env := ⟨by simp [evE]⟩
theorem ev_plcD {M : Mach} {env : En} {i : Nat} {kvs : List (D × D)} (h : slot env i = some (.dct kvs)) : Ev M (.var i) env (.plc i) env := ⟨by simp [evE, h]⟩
theorem vw_plcD {env : En} {i : Nat} {kvs : List (D × D)} (h : slot env i = some (.dct kvs)) : Se env (.plc i) (.dict kvs) := ⟨by simp [vw, h, Sv.view]⟩
theorem st_setD {M : Mach} {env e1 e2 e3 e4 : En} {j : Nat} {i v : E} {rv ri : Rv} {d k : D} {kvs kvs' : List (D × D)} (h1 : Ev M v env rv e1) (f1 : Fz e1 rv d e2) (hx : slot e2 j = some (.dct kvs)) (h2 : Ev M i e2 ri e3) (f2 : Fz e3 ri k e4) (hs : slot e4 j = some (.dct kvs)) (hw : setW (.dct kvs) k d = some (.dct kvs')) : Ex M (.set (.var j) i v) env (.nx (e4.set j (some (.dct kvs')))) := ⟨by
  simp [exS, h1.eq, f1.eq, (ev_plcD (M := M) hx).eq, h2.eq, f2.eq, hs, hw]⟩
theorem bin_addL {xs ys : List D} (h : xs.length + ys.length ≤ 1000000) : Bn .Add (.list xs) (.list ys) (.tl (xs ++ ys)) := ⟨by
  simp only [binD, sizeOk_of (show xs.length + ys.length ≤ 16777216 by omega), if_true]⟩
theorem bin_repL {xs : List D} {b : Bool} (h : xs.length ≤ 1000) : Bn .Mult (.list xs) (.int (if b then 1 else 0)) (.tl (if b then xs else [])) := ⟨by
  cases b <;> simp [binD, h]⟩
theorem cm_gt {x y : Int} : Cm .Gt (.int x) (.int y) (decide (y < x)) := ⟨rfl⟩
theorem cm_inS {x z : Str} : Cm .In (.str x) (.str z) (inS z x) := ⟨rfl⟩
/-! the whole tongue -/
def sndD (c : Nat) (t : Int) : D := .tuple [.str (sL [c]), .bool (inS (sL [97, 101, 111]) (sL [c])), .int t]
def NM : List Nat := [97, 98, 101, 107, 111, 115, 116]
def sndL (tk : List Int) : List D := List.zipWith sndD NM tk
abbrev Ent1 := Str × List Str
def enD (p : Ent1) : D × D := (.str p.1, tolD p.2)
def putE (es : List Ent1) (w : Str) (t : List Str) : List Ent1 := if es.any (fun p => decide (p.1 = w)) then es.map (fun p => if p.1 = w then (p.1, t) else p) else es ++ [(w, t)]
theorem key_iff {z w : Str} : keyOf (.str z) = some (.inr w) ↔ z = w := by simp [keyOf]
theorem put_en (es : List Ent1) (w : Str) (t : List Str) : dPut (es.map enD) (.str w) (.inr w) (tolD t) = (putE es w t).map enD := by
  unfold dPut putE
  have h : ((es.map enD).any fun kv => decide (keyOf kv.1 = some (.inr w))) = es.any fun p => decide (p.1 = w) := by
    rw [List.any_map]
    congr 1
    funext p
    simp [enD, key_iff]
  rw [h]
  split
  · rw [List.map_map, List.map_map]
    refine List.map_congr_left fun p _ => ?_
    simp only [Function.comp, enD, key_iff]
    split <;> rfl
  · simp [enD]
def EW : List Str := [sL [97, 98], sL [115, 97, 116], sL [98, 101, 116, 97], sL [116, 101, 97]]
structure Ent1.ok (p : Ent1) : Prop where
  w : p.1 ∈ EW
  t : ∀ z ∈ p.2, z ∈ SN
  n0 : 1 ≤ p.2.length
  n1 : p.2.length ≤ 3
theorem putE_ok {es : List Ent1} {w : Str} {t : List Str} (h : ∀ p ∈ es, Ent1.ok p) (hn : (es.map (·.1)).Nodup) (hp : Ent1.ok (w, t)) : (∀ p ∈ putE es w t, Ent1.ok p) ∧ ((putE es w t).map (·.1)).Nodup ∧ (putE es w t).length ≤ es.length + 1 := by
  unfold putE
  split
  · refine ⟨fun p hq => ?_, ?_, by simp⟩
    · obtain ⟨q, hq9, rfl⟩ := List.mem_map.1 hq
      split
      · rename_i e
        have := hp
        rw [← e] at this
        exact ⟨this.w, this.t, this.n0, this.n1⟩
      · exact h q hq9
    · rw [List.map_map]
      have : (es.map ((fun p => p.1) ∘ fun p => if p.1 = w then (p.1, t) else p)) = es.map (·.1) := List.map_congr_left fun p _ => by
        simp only [Function.comp]; split <;> rfl
      rw [this]; exact hn
  · rename_i hw
    refine ⟨fun p hq => ?_, ?_, by simp⟩
    · rcases List.mem_append.1 hq with hq | hq
      · exact h p hq
      · simp at hq; subst hq; exact hp
    · rw [List.map_append, List.nodup_append]
      refine ⟨hn, by simp, fun a ha b hb => ?_⟩
      simp at hb
      subst hb
      intro e
      subst e
      obtain ⟨p, hp', e⟩ := List.mem_map.1 ha
      exact hw (List.any_eq_true.2 ⟨p, hp', by simp [e]⟩)
def ONS : List (List Str) := [[sL [98]], [sL [98], sL [115]], [sL [107]], [sL [115]], [sL [115], sL [116]], [sL [116]]]
def wordsD : D := match callF G 5 n__law_words [] with | .ok (.dat d) _ => d | _ => .none
def LT : List Nat := [97, 98, 101, 115, 116]
def Has (rs : List Rul) (c : Nat) : Prop := ∃ x ∈ rs, x.l = sL [] ∧ x.r = sL [] ∧ x.m = sL [c]
structure Tng where
  t0 : Int
  t1 : Int
  t2 : Int
  t3 : Int
  t4 : Int
  t5 : Int
  t6 : Int
  rs : List Rul
  en : List Ent1
  on : List (List Str)
def Tng.sd (T : Tng) : D := .tuple [.tuple [.str (sL [97]), .bool true, .int T.t0], .tuple [.str (sL [98]), .bool false, .int T.t1], .tuple [.str (sL [101]), .bool true, .int T.t2], .tuple [.str (sL [107]), .bool false, .int T.t3], .tuple [.str (sL [111]), .bool true, .int T.t4], .tuple [.str (sL [115]), .bool false, .int T.t5], .tuple [.str (sL [116]), .bool false, .int T.t6]]
def Tng.d (T : Tng) : D := .tuple [T.sd, .tuple (T.rs.map Rul.d), .tuple (T.en.map fun p => .tuple [.str p.1, tolD p.2]), .tuple (T.on.map tolD), wordsD]
structure Tng.ok (T : Tng) (whole : Bool) : Prop where
  tk : ∀ t ∈ [T.t0, T.t1, T.t2, T.t3, T.t4, T.t5, T.t6], 1 ≤ t ∧ t ≤ 20
  rs : ∀ x ∈ T.rs, Rul.ok x
  rn : T.rs.length ≤ 9
  hs : whole = true → ∀ c ∈ LT, Has T.rs c
  en : ∀ p ∈ T.en, Ent1.ok p
  ep : T.en.Pairwise fun p q => ltCps p.1 q.1 = true
  el : T.en.length ≤ 2
  on : T.on.Sublist ONS

theorem zipWith_snoc {α β γ : Type} (f : α → β → γ) : ∀ (as : List α) (bs : List β) (a : α) (b : β), as[bs.length]? = some a → List.zipWith f as (bs ++ [b]) = List.zipWith f as bs ++ [f a b]
  | [], bs, a, b, h => by simp at h
  | x :: as, [], a, b, h => by simp at h; subst h; simp
  | x :: as, y :: bs, a, b, h => by
    simp only [List.cons_append, List.zipWith_cons_cons]
    rw [zipWith_snoc f as bs a b (by simpa using h)]
/-- the texts of one sign -/
def chs (l : List Nat) : List D := l.map fun c => .str ⟨#[c]⟩
theorem evI_str {M : Mach} {env : En} {z : Str} : EvI M (.seq (.str z)) env (z.cps.toList.map fun c => .str ⟨#[c]⟩) env := ⟨by simp [evI, evE, frz]⟩
abbrev lp1 : Ss := match b__law_drawn_tongue with | .cons _ (.cons (.for _ _ b) _) => b | _ => .nil
abbrev lp3 : Ss := match b__law_drawn_tongue with | .cons _ (.cons _ (.cons _ (.cons (.for _ _ b) _))) => b | _ => .nil
abbrev lp4 : Ss := match b__law_drawn_tongue with | .cons _ (.cons _ (.cons _ (.cons _ (.cons (.for _ _ b) _)))) => b | _ => .nil
abbrev lp5 : Ss := match b__law_drawn_tongue with | .cons _ (.cons _ (.cons _ (.cons _ (.cons _ (.cons _ (.cons (.for _ _ b) _)))))) => b | _ => .nil
/-- for name in "abekost" -/
theorem tg_snd (k : Nat) {M : Mach} {ns : List Int} (hM : M.call = callF G (k + 1)) (hp : M.pin = [1]) (hn : ns.length ≤ 63) {ts : List D} (hT : Town ts) (hl : ts.length ≤ 10000) (w : Option Sv) (ents : Option Sv) (r6 r7 r8 r9 r10 r11 r12 : Option Sv) :
    ∃ o5 tk ts', forF M (.nm 5) (exSs M lp1) (chs NM) (EV ns ts [w, some (.lst []), ents, none, r6, r7, r8, r9, r10, r11, r12])
      = .nx (EV ns ts' [w, some (.lst (sndL tk)), ents, o5, r6, r7, r8, r9, r10, r11, r12]) ∧ tk.length = 7 ∧ (∀ t ∈ tk, 1 ≤ t ∧ t ≤ 20) ∧ Town ts' ∧ ts'.length ≤ ts.length + 14 := by
  obtain ⟨⟨o5, tk⟩, ts', h, ⟨h1, h2⟩, h3, h4⟩ := forT (β := Option Sv × List Int) (fun s => [w, some (.lst (sndL s.2)), ents, s.1, r6, r7, r8, r9, r10, r11, r12]) (M := M) (t := .nm 5) (b := lp1) (ns := ns) 2 (chs NM)
    (fun j s => s.2.length = j ∧ ∀ t ∈ s.2, 1 ≤ t ∧ t ≤ 20) (ts := ts) (s := (none, [])) hT ⟨rfl, by simp⟩ (by
      rintro j x ⟨o5, tk⟩ ts' hx ⟨h1, h2⟩ hT' hL'
      have hj := (List.getElem?_eq_some_iff.1 hx).1
      simp only [chs, List.length_map, NM, List.length_cons, List.length_nil] at hj
      obtain ⟨c, hc, rfl⟩ : ∃ c, NM[j]? = some c ∧ x = .str (sL [c]) := by
        rw [chs, List.getElem?_map] at hx
        obtain ⟨c, hc, rfl⟩ := Option.map_eq_some_iff.1 hx
        exact ⟨c, hc, rfl⟩
      have hst : ∀ (e : En) (v : Sv), 5 < e.length → store M e 5 v = some (e.set 5 (some v)) := fun e v h => by simp [store, hp, h]
      obtain ⟨q, ts2, d, q0, q1, T2, L2⟩ := ev_drawT (k := k) (M := M) (r := [w, some (.lst (sndL tk)), ents, some (.dat (.str (sL [c]))), r6, r7, r8, r9, r10, r11, r12]) (m := 20) hM hT' hn (by omega) (by omega) ev_int
      refine ⟨_, (some (.dat (.str (sL [c]))), tk ++ [1 + q]), ts2, hst _ _ (by simp), .inl ?_, ⟨by simp at h1 ⊢; omega, ?_⟩, T2, L2⟩
      · have : Exs M lp1 (EV ns ts' [w, some (.lst (sndL tk)), ents, some (.dat (.str (sL [c]))), r6, r7, r8, r9, r10, r11, r12])
            (.nx (EV ns ts2 [w, some (.lst (sndL tk ++ [sndD c (1 + q)])), ents, some (.dat (.str (sL [c]))), r6, r7, r8, r9, r10, r11, r12])) :=
          ss_nx (st_exp (ev_mut rfl (evDs_cons (ev_tup (evDs_cons (ev_var rfl) frz_dat (evDs_cons (ev_cmp (ev_var rfl) ev_str vw_dat vw_dat cm_inS) frz_dat (evDs_cons (ev_bin ev_int d vw_dat vw_dat bin_add) frz_dat evDs_nil))) (sizeOk_of (by simp))) frz_dat evDs_nil) rfl (mth_app (by simp [sndL, NM]; omega)))) ss_nil
        have e := this.eq
        simp only [sndL, zipWith_snoc sndD NM tk c (1 + q) (by simp at h1; rw [h1]; exact hc)] at e ⊢
        exact e
      · intro t ht
        rcases List.mem_append.1 ht with ht | ht
        · exact h2 t ht
        · simp at ht; omega)
  exact ⟨o5, tk, ts', h, by simpa [chs, NM] using h1, h2, h3, by simpa [chs, NM] using h4⟩
/-- for letter in "abest" -/
theorem tg_let (k : Nat) {M : Mach} {ns : List Int} (hM : M.call = callF G (k + 2)) (hp : M.pin = [1]) (hn : ns.length ≤ 63) {ts : List D} (hT : Town ts) (hl : ts.length ≤ 10000) (whole : Bool) (sn ents o5 : Option Sv) (rs0 : List Rul) (h0 : ∀ x ∈ rs0, Rul.ok x) (hr0 : rs0.length ≤ 4) (r7 r9 r10 r11 r12 : Option Sv) :
    ∃ o8 rs ts', forF M (.nm 8) (exSs M lp3) (chs LT) (EV ns ts [some (.dat (.bool whole)), sn, ents, o5, some (.lst (rs0.map Rul.d)), r7, none, r9, r10, r11, r12])
      = .nx (EV ns ts' [some (.dat (.bool whole)), sn, ents, o5, some (.lst (rs.map Rul.d)), r7, o8, r9, r10, r11, r12]) ∧ (∀ x ∈ rs, Rul.ok x) ∧ rs.length ≤ 9 ∧ (whole = true → ∀ c ∈ LT, Has rs c) ∧ Town ts' ∧ ts'.length ≤ ts.length + 20 := by
  obtain ⟨⟨o8, rs⟩, ts', h, ⟨h1, h2, h3⟩, h4, h5⟩ := forT (β := Option Sv × List Rul) (fun s => [some (.dat (.bool whole)), sn, ents, o5, some (.lst (s.2.map Rul.d)), r7, s.1, r9, r10, r11, r12]) (M := M) (t := .nm 8) (b := lp3) (ns := ns) 4 (chs LT)
    (fun j s => (∀ x ∈ s.2, Rul.ok x) ∧ s.2.length ≤ 4 + j ∧ (whole = true → ∀ c ∈ LT.take j, Has s.2 c)) (ts := ts) (s := (none, rs0)) hT ⟨h0, by simpa using hr0, by simp⟩ (by
      rintro j x ⟨o8, rs⟩ ts' hx ⟨h1, h2, h3⟩ hT' hL'
      have hj := (List.getElem?_eq_some_iff.1 hx).1
      simp only [chs, List.length_map, LT, List.length_cons, List.length_nil] at hj
      obtain ⟨c, hc, rfl⟩ : ∃ c, LT[j]? = some c ∧ x = .str (sL [c]) := by
        rw [chs, List.getElem?_map] at hx
        obtain ⟨c, hc, rfl⟩ := Option.map_eq_some_iff.1 hx
        exact ⟨c, hc, rfl⟩
      have hcm : c ∈ LT := List.mem_of_getElem? hc
      have hst : ∀ (e : En) (v : Sv), 8 < e.length → store M e 8 v = some (e.set 8 (some v)) := fun e v h => by simp [store, hp, h]
      simp only at h1 h2 h3
      -- the test
      have htest : ∃ (b : Bool) (ts2 : List D), EvT M (.or (.cons (.val (.var 2)) (.one (.val (.cmp .Gt (.app n__law_draw (.cons (.var 0) (.cons (.var 1) (.cons (.int 15) .nil)))) (.int 0)))))) (EV ns ts' [some (.dat (.bool whole)), sn, ents, o5, some (.lst (rs.map Rul.d)), r7, some (.dat (.str (sL [c]))), r9, r10, r11, r12]) b (EV ns ts2 [some (.dat (.bool whole)), sn, ents, o5, some (.lst (rs.map Rul.d)), r7, some (.dat (.str (sL [c]))), r9, r10, r11, r12]) ∧ (whole = true → b = true) ∧ Town ts2 ∧ ts2.length ≤ ts'.length + 2 := by
        cases whole with
        | true => exact ⟨true, ts', evT_or (evTO_t (evT_val (ev_var rfl) vw_dat rfl)), fun _ => rfl, hT', by omega⟩
        | false =>
          obtain ⟨q, ts2, d, q0, q1, T2, L2⟩ := ev_drawT (k := k + 1) (M := M) (r := [some (.dat (.bool false)), sn, ents, o5, some (.lst (rs.map Rul.d)), r7, some (.dat (.str (sL [c]))), r9, r10, r11, r12]) (m := 15) hM hT' hn (by omega) (by omega) ev_int
          exact ⟨_, ts2, evT_or (evTO_f (evT_val (ev_var rfl) vw_dat rfl) (evTO_one (evT_val (ev_cmp d ev_int vw_dat vw_dat cm_gt) vw_dat rfl))), (fun e => absurd e Bool.false_ne_true), T2, L2⟩
      obtain ⟨b, ts2, d2, hb, T2, L2⟩ := htest
      cases b with
      | false =>
        refine ⟨_, (some (.dat (.str (sL [c]))), rs), ts2, hst _ _ (by simp), .inl ?_, ⟨h1, by simp only; omega, fun e => by have := hb e; cases this⟩, T2, by omega⟩
        have : Exs M lp3 (EV ns ts' [some (.dat (.bool whole)), sn, ents, o5, some (.lst (rs.map Rul.d)), r7, some (.dat (.str (sL [c]))), r9, r10, r11, r12]) (.nx (EV ns ts2 [some (.dat (.bool whole)), sn, ents, o5, some (.lst (rs.map Rul.d)), r7, some (.dat (.str (sL [c]))), r9, r10, r11, r12])) :=
          ss_nx (st_skip d2) ss_nil
        exact this.eq
      | true =>
        obtain ⟨y, ts3, hy, d3, T3, L3⟩ := ev_pickT (k := k) (M := M) (e := .lst (.cons (.var 8) (.cons (.var 8) (.cons (.str (sL [107])) (.cons (.str (sL [111])) .nil))))) (r := [some (.dat (.bool whole)), sn, ents, o5, some (.lst (rs.map Rul.d)), r7, some (.dat (.str (sL [c]))), r9, r10, r11, r12]) (xs := [.str (sL [c]), .str (sL [c]), .str (sL [107]), .str (sL [111])]) hM T2 hn (by omega)
          (ev_lst (evDs_cons (ev_var rfl) frz_dat (evDs_cons (ev_var rfl) frz_dat (evDs_cons ev_str frz_dat (evDs_cons ev_str frz_dat evDs_nil)))) (sizeOk_of (by simp))) (by simp) (by simp)
        obtain ⟨z, rfl, hz⟩ : ∃ z, y = .str z ∧ z ∈ SN := by
          have hcs : sL [c] ∈ SN := by
            simp only [LT, List.mem_cons, List.not_mem_nil, or_false] at hcm
            rcases hcm with rfl | rfl | rfl | rfl | rfl <;> simp [SN]
          simp only [List.mem_cons, List.not_mem_nil, or_false] at hy
          rcases hy with rfl | rfl | rfl | rfl
          · exact ⟨_, rfl, hcs⟩
          · exact ⟨_, rfl, hcs⟩
          · exact ⟨_, rfl, by simp [SN]⟩
          · exact ⟨_, rfl, by simp [SN]⟩
        have hok : Rul.ok ⟨sL [], sL [c], sL [], [z]⟩ := by
          refine ⟨by simp [RL], ?_, by simp [RR], by simpa using hz, by simp⟩
          simp only [LT, List.mem_cons, List.not_mem_nil, or_false] at hcm
          rcases hcm with rfl | rfl | rfl | rfl | rfl <;> simp [RM]
        refine ⟨_, (some (.dat (.str (sL [c]))), rs ++ [⟨sL [], sL [c], sL [], [z]⟩]), ts3, hst _ _ (by simp), .inl ?_, ⟨?_, by simp; omega, fun e c' hc' => ?_⟩, T3, by omega⟩
        · have : Exs M lp3 (EV ns ts' [some (.dat (.bool whole)), sn, ents, o5, some (.lst (rs.map Rul.d)), r7, some (.dat (.str (sL [c]))), r9, r10, r11, r12]) (.nx (EV ns ts3 [some (.dat (.bool whole)), sn, ents, o5, some (.lst (rs.map Rul.d ++ [Rul.d ⟨sL [], sL [c], sL [], [z]⟩])), r7, some (.dat (.str (sL [c]))), r9, r10, r11, r12])) :=
            ss_nx (st_ite_t d2 (ss_nx (st_exp (ev_mut rfl (evDs_cons (ev_tup (evDs_cons ev_str frz_dat (evDs_cons (ev_var rfl) frz_dat (evDs_cons ev_str frz_dat (evDs_cons (ev_tup (evDs_cons d3 frz_dat evDs_nil) (sizeOk_of (by simp))) frz_dat evDs_nil)))) (sizeOk_of (by simp))) frz_dat evDs_nil) rfl (mth_app (by simp; omega)))) ss_nil)) ss_nil
          have e := this.eq
          simp only [List.map_append, List.map_cons, List.map_nil]
          exact e
        · intro x hx
          rcases List.mem_append.1 hx with hx | hx
          · exact h1 x hx
          · simp at hx; subst hx; exact hok
        · rw [List.take_add_one, hc] at hc'
          rcases List.mem_append.1 hc' with hc' | hc'
          · obtain ⟨x, hx, hh⟩ := h3 e c' hc'
            exact ⟨x, List.mem_append_left _ hx, hh⟩
          · simp at hc'
            subst hc'
            exact ⟨⟨sL [], sL [c'], sL [], [z]⟩, List.mem_append_right _ (by simp), rfl, rfl, rfl⟩)
  exact ⟨o8, rs, ts', h, h1, by simpa [chs, LT] using h2, fun e c hc => h3 e c (by simpa [chs, LT] using hc), h4, by simpa [chs, LT] using h5⟩
/-- for k in range(..): entries[..] = .. -/
theorem tg_ent (k : Nat) {M : Mach} {ns : List Int} (hM : M.call = callF G (k + 3)) (hp : M.pin = [1]) (hn : ns.length ≤ 63) {ts : List D} (hT : Town ts) (hl : ts.length ≤ 10000) (w sn o5 o6 o7 r8 r9 r10 r11 r12 : Option Sv) (n : Nat) (hn2 : n ≤ 2) :
    ∃ (o7' : Option Sv) (es : List Ent1) (ts' : List D), forF M (.nm 7) (exSs M lp4) ((List.range n).map fun i : Nat => .int (0 + (i : Int))) (EV ns ts [w, sn, some (.dct []), o5, o6, o7, r8, r9, r10, r11, r12])
      = .nx (EV ns ts' [w, sn, some (.dct (es.map enD)), o5, o6, o7', r8, r9, r10, r11, r12]) ∧ (∀ p ∈ es, Ent1.ok p) ∧ (es.map (·.1)).Nodup ∧ es.length ≤ n ∧ Town ts' ∧ ts'.length ≤ ts.length + 44 := by
  obtain ⟨⟨o7', es⟩, ts', h, ⟨h1, h2, h3⟩, h4, h5⟩ := forT (β := Option Sv × List Ent1) (fun s => [w, sn, some (.dct (s.2.map enD)), o5, o6, s.1, r8, r9, r10, r11, r12]) (M := M) (t := .nm 7) (b := lp4) (ns := ns) 22 ((List.range n).map fun i : Nat => .int (0 + (i : Int)))
    (fun j s => (∀ p ∈ s.2, Ent1.ok p) ∧ (s.2.map (·.1)).Nodup ∧ s.2.length ≤ j) (ts := ts) (s := (o7, [])) hT ⟨by simp, by simp, by simp⟩ (by
      rintro j x ⟨o7, es⟩ ts' hx ⟨h1, h2, h3⟩ hT' hL'
      have hj := (List.getElem?_eq_some_iff.1 hx).1
      simp only [List.length_map, List.length_range] at hj
      simp only at h1 h2 h3
      have hst : ∀ (e : En) (v : Sv), 7 < e.length → store M e 7 v = some (e.set 7 (some v)) := fun e v h => by simp [store, hp, h]
      obtain ⟨t, ts2, ht, tw, t0, t1, T2, L2⟩ := told_s k hn hT' (by omega) (l := 1) (by omega) (by omega)
      obtain ⟨y, ts3, hy, d3, T3, L3⟩ := ev_pickT (k := k + 1) (M := M) (r := [w, sn, some (.dct (es.map enD)), o5, o6, some (.dat x), r8, r9, r10, r11, r12]) (xs := EW.map .str) hM T2 hn (by omega) (ev_strs EW (by decide)) (by simp [EW]) (by simp [EW])
      obtain ⟨z, hz, rfl⟩ := List.mem_map.1 hy
      obtain ⟨g1, g2, g3⟩ := putE_ok h1 h2 (w := z) (t := t) ⟨hz, tw, by show 1 ≤ t.length; omega, by show t.length ≤ 3; omega⟩
      refine ⟨_, (some (.dat x), putE es z t), ts3, hst _ _ (by simp), .inl ?_, ⟨g1, g2, by simp only; omega⟩, T3, by omega⟩
      have hw : setW (.dct (es.map enD)) (.str z) (tolD t) = some (.dct ((putE es z t).map enD)) := by
        simp only [setW, keyOf, Option.bind_some, put_en]
        rw [sizeOk_of (by simp; omega)]; rfl
      have : Exs M lp4 (EV ns ts' [w, sn, some (.dct (es.map enD)), o5, o6, some (.dat x), r8, r9, r10, r11, r12]) (.nx (EV ns ts3 [w, sn, some (.dct ((putE es z t).map enD)), o5, o6, some (.dat x), r8, r9, r10, r11, r12])) :=
        ss_nx (st_setD (ev_appT1 ev_int (hM ▸ ht)) frz_dat rfl d3 frz_dat rfl hw) ss_nil
      exact this.eq)
  exact ⟨o7', es, ts', h, h1, h2, by simpa using h3, h4, by
    rw [List.length_map, List.length_range] at h5
    omega⟩
/-- for one in (..): onsets = onsets + [one] * int(..) -/
theorem tg_ons (k : Nat) {M : Mach} {ns : List Int} (hM : M.call = callF G (k + 1)) (hp : M.pin = [1]) (hn : ns.length ≤ 63) {ts : List D} (hT : Town ts) (hl : ts.length ≤ 10000) (w sn en o5 o6 o7 o8 r10 r11 r12 : Option Sv) :
    ∃ (o10 : Option Sv) (on : List (List Str)) (ts' : List D), forF M (.nm 10) (exSs M lp5) (ONS.map tolD) (EV ns ts [w, sn, en, o5, o6, o7, o8, some (.lst []), r10, r11, r12])
      = .nx (EV ns ts' [w, sn, en, o5, o6, o7, o8, some (.lst (on.map tolD)), o10, r11, r12]) ∧ on.Sublist ONS ∧ Town ts' ∧ ts'.length ≤ ts.length + 12 := by
  obtain ⟨⟨o10, on⟩, ts', h, h1, h4, h5⟩ := forT (β := Option Sv × List (List Str)) (fun s => [w, sn, en, o5, o6, o7, o8, some (.lst (s.2.map tolD)), s.1, r11, r12]) (M := M) (t := .nm 10) (b := lp5) (ns := ns) 2 (ONS.map tolD)
    (fun j s => s.2.Sublist (ONS.take j)) (ts := ts) (s := (r10, [])) hT (by simp) (by
      rintro j x ⟨o10, on⟩ ts' hx h1 hT' hL'
      have hj := (List.getElem?_eq_some_iff.1 hx).1
      simp only [List.length_map, ONS, List.length_cons, List.length_nil] at hj
      simp only at h1
      rw [List.getElem?_map] at hx
      obtain ⟨t, ht, rfl⟩ := Option.map_eq_some_iff.1 hx
      have hol : on.length ≤ 6 := by have := h1.length_le; simp [ONS] at this; omega
      have hst : ∀ (e : En) (i : Nat) (v : Sv), i < e.length → i ≠ 1 → store M e i v = some (e.set i (some v)) := fun e i v h h2 => by simp [store, hp, h, h2]
      obtain ⟨q, ts2, d, q0, q1, T2, L2⟩ := ev_drawT (k := k) (M := M) (r := [w, sn, en, o5, o6, o7, o8, some (.lst (on.map tolD)), some (.dat (tolD t)), r11, r12]) (m := 3) hM hT' hn (by omega) (by omega) ev_int
      refine ⟨_, (some (.dat (tolD t)), on ++ if decide (0 < q) then [t] else []), ts2, hst _ _ _ (by simp) (by omega), .inl ?_, ?_, T2, L2⟩
      · have : Exs M lp5 (EV ns ts' [w, sn, en, o5, o6, o7, o8, some (.lst (on.map tolD)), some (.dat (tolD t)), r11, r12]) (.nx (EV ns ts2 [w, sn, en, o5, o6, o7, o8, some (.lst (on.map tolD ++ if decide (0 < q) then [tolD t] else [])), some (.dat (tolD t)), r11, r12])) :=
          ss_nx (st_asg (ev_bin (ev_plc rfl) (ev_bin (ev_lst (evDs_cons (ev_var rfl) frz_dat evDs_nil) (sizeOk_of (by simp))) (ev_blt1 (ev_cmp d ev_int vw_dat vw_dat cm_gt) vw_dat blt_int_b) vw_tl vw_dat (bin_repL (by simp))) (vw_plc rfl) vw_tl (bin_addL (by simp; split <;> simp <;> omega))) own_tl (hst _ _ _ (by simp) (by omega))) ss_nil
        have e := this.eq
        have e2 : (on ++ if decide (0 < q) then [t] else []).map tolD = on.map tolD ++ if decide (0 < q) then [tolD t] else [] := by
          split <;> simp
        simp only [e2]
        exact e
      · simp only
        rw [List.take_add_one, ht]
        refine h1.append ?_
        split <;> simp)
  exact ⟨o10, on, ts', h, by simpa [ONS] using h1, h4, by simpa [ONS] using h5⟩
/-! sorted(entries) -/
theorem strs_map : ∀ l : List Str, strsOf (l.map .str) = some l
  | [] => rfl
  | z :: r => by simp [strsOf, strs_map r]
theorem ints_none : ∀ {l : List Str}, l ≠ [] → intsOf (l.map .str) = none
  | [], h => absurd rfl h
  | _ :: _, _ => rfl
theorem blt_sortedE {es : List Ent1} (h : es.length < 64) : Bl .sorted [.dict (es.map enD)] (.tl ((srtB (fun a b => !ltCps b a) (es.map (·.1))).map .str)) := ⟨by
  have e : (es.map enD).map (·.1) = (es.map (·.1)).map .str := by simp [enD]
  cases es with
  | nil => simp [bltD, intsOf, srtB]
  | cons p r =>
    simp only [bltD, e, ints_none (show ((p :: r).map (·.1)) ≠ [] by simp), strs_map]
    rw [if_pos (by simpa using h)]⟩
def lookE (es : List Ent1) (w : Str) : List Str := ((es.find? fun p => decide (p.1 = w)).map (·.2)).getD []
theorem dVal_en (es : List Ent1) (w : Str) : dVal (es.map enD) (.inr w) = ((es.find? fun p => decide (p.1 = w)).map (·.2)).map tolD := by
  unfold dVal
  rw [List.find?_map]
  have : ((fun kv : D × D => decide (keyOf kv.1 = some (.inr w))) ∘ enD) = fun p => decide (p.1 = w) := by
    funext p; simp [enD, key_iff]
  rw [this]
  cases es.find? fun p => decide (p.1 = w) <;> rfl
theorem lookE_mem {es : List Ent1} {w : Str} (h : w ∈ es.map (·.1)) : (w, lookE es w) ∈ es ∧ dVal (es.map enD) (.inr w) = some (tolD (lookE es w)) := by
  obtain ⟨p, hp, rfl⟩ := List.mem_map.1 h
  obtain ⟨q, hq⟩ : ∃ q, es.find? (fun r => decide (r.1 = p.1)) = some q := by
    cases hf : es.find? (fun r => decide (r.1 = p.1)) with
    | some q => exact ⟨q, rfl⟩
    | none => have := List.find?_eq_none.1 hf p hp; simp at this
  have h1 := List.mem_of_find?_eq_some hq
  have h2 : q.1 = p.1 := by simpa using List.find?_some hq
  refine ⟨?_, ?_⟩
  · simp only [lookE, hq, Option.map_some, Option.getD_some]
    rw [← h2]; exact h1
  · rw [dVal_en, lookE, hq]; rfl
def sortE (es : List Ent1) : List Ent1 := (srtB (fun a b => !ltCps b a) (es.map (·.1))).map fun w => (w, lookE es w)
theorem srt_strict {l : List Str} (h : l.Nodup) : (srtB (fun a b => !ltCps b a) l).Pairwise fun a b => ltCps a b = true := by
  have h1 := srtB_pw leS_tot leS_tr l
  have h2 : (srtB (fun a b => !ltCps b a) l).Nodup := (srtB_perm l).nodup_iff.2 h
  refine (List.pairwise_and_iff.2 ⟨h1, h2⟩).imp fun {a b} ⟨q1, q2⟩ => ?_
  cases e : ltCps a b with
  | true => rfl
  | false => exact absurd (leS_an a b q1 (by rw [e]; rfl)) q2
theorem sortE_ok {es : List Ent1} (h : ∀ p ∈ es, Ent1.ok p) (hn : (es.map (·.1)).Nodup) : (∀ p ∈ sortE es, Ent1.ok p) ∧ (sortE es).Pairwise (fun p q => ltCps p.1 q.1 = true) ∧ (sortE es).length = es.length := by
  refine ⟨fun p hp => ?_, ?_, ?_⟩
  · obtain ⟨w, hw, rfl⟩ := List.mem_map.1 hp
    exact h _ (lookE_mem ((srtB_perm _).mem_iff.1 hw)).1
  · exact List.pairwise_map.2 (srt_strict hn)
  · have := (srtB_perm (le := fun a b => !ltCps b a) (es.map (·.1))).length_eq
    simp only [sortE, List.length_map] at this ⊢
    exact this
theorem words_s (k : Nat) : callF G (k + 1) n__law_words [] = .ok (.dat wordsD) [] := by kernel_rfl
theorem tongue_s (k : Nat) {ns : List Int} (hn : ns.length ≤ 63) {ts : List D} (hT : Town ts) (hl : ts.length ≤ 5000) (whole : Bool) :
    ∃ T ts', callF G (k + 5) n__law_drawn_tongue [.dat (Sd ns), .lst ts, .dat (.bool whole)] = .ok (.dat (Tng.d T)) [.dat (Sd ns), .lst ts', .dat (.bool whole)] ∧ Tng.ok T whole ∧ Town ts' ∧ ts'.length ≤ ts.length + 250 := by
  let M : Mach := { call := callF G (k + 4), pin := pinsOf 0 [.dat (Sd ns), .lst ts, .dat (.bool whole)], gl := G.gl, fuel := G.fuel }
  let W : Option Sv := some (.dat (.bool whole))
  obtain ⟨o5, tk, ts1, f1, tl, tk1, T1, L1⟩ := tg_snd (k + 3) (M := M) (ns := ns) rfl rfl hn hT (by omega) W (some (.dct [])) none none none none none none none
  obtain ⟨q, ts2, d2, q0, q1, T2, L2⟩ := ev_drawT (k := k + 3) (M := M) (r := [W, some (.lst (sndL tk)), some (.dct []), o5, none, none, none, none, none, none, none]) (m := 5) rfl T1 hn (by omega) (by omega) ev_int
  obtain ⟨rs0, ts3, d3, rl, rok, T3, L3⟩ := ev_cprT (M := M) (e := .app n__law_drawn_rule (.cons (.var 0) (.cons (.var 1) .nil))) (t := .nm 7) (own := [7]) (ns := ns) (r := [W, some (.lst (sndL tk)), some (.dct []), o5, none, none, none, none, none, none, none]) Rul.d Rul.ok 26 9000
    (evI_rng1 (j := q) d2 (by omega) (by omega)) T2 (by simp; omega) (by simp; omega) (by simp) (by
      intro x _ tt hTt hLt
      obtain ⟨y, tt', hy, ho, T', L'⟩ := rule_s k hn hTt (by omega)
      exact ⟨y, tt', _, cB_some rfl evOt_no (ev_appT hy) frz_dat, rfl, ho, T', L'⟩)
  simp only [List.length_map, List.length_range] at rl L3
  obtain ⟨o8, rs, ts4, f4, rs1, rs2, rs3, T4, L4⟩ := tg_let (k + 2) (M := M) (ns := ns) rfl rfl hn T3 (by omega) whole (some (.lst (sndL tk))) (some (.dct [])) o5 rs0 rok (by omega) none none none none none
  obtain ⟨p, ts5, d5, p0, p1, T5, L5⟩ := ev_drawT (k := k + 3) (M := M) (r := [W, some (.lst (sndL tk)), some (.dct []), o5, some (.lst (rs.map Rul.d)), none, o8, none, none, none, none]) (m := 3) rfl T4 hn (by omega) (by omega) ev_int
  obtain ⟨o7, es, ts6, f6, es1, es2, es3, T6, L6⟩ := tg_ent (k + 1) (M := M) (ns := ns) rfl rfl hn T5 (by omega) W (some (.lst (sndL tk))) o5 (some (.lst (rs.map Rul.d))) none o8 none none none none p.toNat (by omega)
  obtain ⟨o10, on, ts7, f7, on1, T7, L7⟩ := tg_ons (k + 3) (M := M) (ns := ns) rfl rfl hn T6 (by omega) W (some (.lst (sndL tk))) (some (.dct (es.map enD))) o5 (some (.lst (rs.map Rul.d))) o7 o8 none none none
  obtain ⟨s1, s2, s3⟩ := sortE_ok es1 es2
  match tk, tl, tk1, f1, d2, d3, f4, d5, f6, f7 with
  | [a0, a1, a2, a3, a4, a5, a6], _, tk1, f1, d2, d3, f4, d5, f6, f7 =>
    let T : Tng := ⟨a0, a1, a2, a3, a4, a5, a6, rs, sortE es, on⟩
    refine ⟨T, ts7, ?_, ⟨tk1, rs1, rs2, rs3, s1, s2, by show (sortE es).length ≤ 2; omega, on1⟩, T7, by omega⟩
    let E7 : En := EV ns ts7 [W, some (.lst (sndL [a0, a1, a2, a3, a4, a5, a6])), some (.dct (es.map enD)), o5, some (.lst (rs.map Rul.d)), o7, o8, some (.lst (on.map tolD)), o10, none, none]
    let given : D := .tuple ((sortE es).map fun p => .tuple [.str p.1, tolD p.2])
    let E8 : En := EV ns ts7 [W, some (.lst (sndL [a0, a1, a2, a3, a4, a5, a6])), some (.dct (es.map enD)), o5, some (.lst (rs.map Rul.d)), o7, o8, some (.lst (on.map tolD)), o10, some (.dat given), none]
    have hg : Ev M (.cpr (.tup (.cons (.var 12) (.cons (.idx (.var 4) (.var 12)) .nil))) (.nm 12) (.seq (.blt .sorted (.cons (.var 4) .nil))) .no [12]) E7 (.tl ((sortE es).map fun p => .tuple [.str p.1, tolD p.2])) E7 := by
      have e : ((sortE es).map fun p => PyData.tuple [.str p.1, tolD p.2]) = (srtB (fun a b => !ltCps b a) (es.map (·.1))).map fun w => .tuple [.str w, tolD (lookE es w)] := by
        simp [sortE]
      rw [e]
      refine ev_cprP (M := M) (t := .nm 12) (own := [12]) (e1 := E7) (f := PyData.str) (as := srtB (fun a b => !ltCps b a) (es.map (·.1))) (fun w => .tuple [.str w, tolD (lookE es w)]) (evI_list (ev_blt1 (ev_plcD (i := 4) rfl) (vw_plcD (i := 4) rfl) (blt_sortedE (by omega))) frz_tl) ?_ fun w hw => ⟨_, rfl, rfl, ?_⟩
      · have := (srtB_perm (le := fun a b => !ltCps b a) (es.map (·.1))).length_eq
        simp only [List.length_map] at this; omega
      · have := (lookE_mem ((srtB_perm _).mem_iff.1 hw)).2
        exact ev_tup (evDs_cons (ev_var rfl) frz_dat (evDs_cons (ev_idx (ev_plcD rfl) (ev_var rfl) (vw_plcD rfl) vw_dat (by simpa [idxD, keyOf] using this)) frz_dat evDs_nil)) (sizeOk_of (by simp))
    have hTd : T.d = .tuple [.tuple (sndL [a0, a1, a2, a3, a4, a5, a6]), .tuple (rs.map Rul.d), given, .tuple (on.map tolD), wordsD] := by kernel_rfl
    rw [hTd]
    refine call_rt (F := i__law_drawn_tongue.fn) rfl rfl (env := E8) ?_ rfl
    refine ss_nx (st_par (evA_cons (ev_lst evDs_nil (sizeOk_of (by simp))) (evA_cons ev_dnew evA_nil)) rfl rfl) ?_
    refine ss_nx (st_for evI_str f1) ?_
    refine ss_nx (st_asg d3 own_tl rfl) ?_
    refine ss_nx (st_for evI_str f4) ?_
    refine ss_nx (st_for (evI_rng1 d5 (by omega) (by omega)) f6) ?_
    refine ss_nx (st_asg (ev_lst evDs_nil (sizeOk_of (by simp))) own_tl rfl) ?_
    refine ss_nx (st_for (xs := ONS.map tolD) ⟨by kernel_rfl⟩ f7) ?_
    refine ss_nx (e1 := E8) (st_asg (ev_blt1 hg vw_tl blt_tupL) own_dat rfl) ?_
    refine ss_rt (st_ret (ev_tup (evDs_cons (ev_blt1 (ev_plc rfl) (vw_plc rfl) blt_tupL) frz_dat (evDs_cons (ev_blt1 (ev_plc rfl) (vw_plc rfl) blt_tupL) frz_dat (evDs_cons (ev_var rfl) frz_dat (evDs_cons (ev_blt1 (ev_plc rfl) (vw_plc rfl) blt_tupL) frz_dat (evDs_cons (ev_app evA_nil rfl rfl (words_s (k + 3))) frz_dat evDs_nil))))) (sizeOk_of (by simp))) out_dat)

/-! draws, forwards -/
theorem draw_c {k : Nat} {ns : List Int} {ts : List D} {m : Int} {Q : Sv → List Sv → Prop} {X : Nat → Option D → List Sv → Prop} (hn : ns.length ≤ 63) (hT : Town ts) (hl : ts.length ≤ 1000000) (hm : 0 < m)
    (q : ∀ (r : Int) (ts' : List D), 0 ≤ r → r < m → Town ts' → ts'.length ≤ ts.length + 2 → Q (.dat (.int r)) [.dat (Sd ns), .lst ts', .dat (.int m)]) : CallS G (k + 1) n__law_draw [.dat (Sd ns), .lst ts, .dat (.int m)] Q X := by
  obtain ⟨r, ts', h, h0, h1, h2, h3⟩ := draw_spec (G := G) (k := k) (f := n__law_draw) (ns := ns) (m := m) rfl hT (by omega) (by omega) hm
  exact callS_ok h (q r ts' h0 h1 h2 h3)
theorem pick_c {k : Nat} {ns : List Int} {ts xs : List D} {Q : Sv → List Sv → Prop} {X : Nat → Option D → List Sv → Prop} (hn : ns.length ≤ 63) (hT : Town ts) (hl : ts.length ≤ 1000000) (h0 : 0 < xs.length) (h1 : xs.length ≤ 1000)
    (q : ∀ (x : D) (ts' : List D), x ∈ xs → Town ts' → ts'.length ≤ ts.length + 2 → Q (.dat x) [.dat (Sd ns), .lst ts', .dat (.list xs)]) : CallS G (k + 2) n__law_pick [.dat (Sd ns), .lst ts, .dat (.list xs)] Q X := by
  refine callM (F := i__law_pick.fn) rfl rfl m__law_pick (by repeat' first | exact frm_0 | apply frm_c | apply frm_s) ?_
  (show_term first | (refine draw_c hn (by assumption) (by omega) (by omega) (fun r ts' r0 r1 T' L' => ?_)))
  have hr : r.toNat < xs.length := by omega
  refine wx_L r0 hr ?_
  (show_term fail)
  exact q _ _ (List.getElem_mem hr) T' L'
theorem pick_cS {k : Nat} {ns : List Int} {ts ds : List D} {zs : List Str} {Q : Sv → List Sv → Prop} {X : Nat → Option D → List Sv → Prop} (hz : Strs ds zs) (hn : ns.length ≤ 63) (hT : Town ts) (hl : ts.length ≤ 1000000) (h0 : 0 < zs.length) (h1 : zs.length ≤ 1000)
    (q : ∀ (z : Str) (ts' : List D), z ∈ zs → Town ts' → ts'.length ≤ ts.length + 2 → Q (.dat (.str z)) [.dat (Sd ns), .lst ts', .dat (.list ds)]) : CallS G (k + 2) n__law_pick [.dat (Sd ns), .lst ts, .dat (.list ds)] Q X := by
  have e := hz.eq
  subst e
  refine pick_c hn hT hl (by simpa using h0) (by simpa using h1) fun x ts' hx hT' hL' => ?_
  obtain ⟨z, hz', rfl⟩ := List.mem_map.1 hx
  exact q z ts' hz' hT' hL'

/-! texts as data -/
theorem beqS (x y : Str) : (x == y) = decide (x = y) := by
  by_cases h : x = y
  · subst h; simp
  · rw [decide_eq_false h]; simpa using h
theorem eqvAll_strs : ∀ xs ys : List Str, PyData.eqvAll (xs.map .str) (ys.map .str) = decide (xs = ys)
  | [], [] => rfl
  | [], y :: ys => by simp [PyData.eqvAll]
  | x :: xs, [] => by simp [PyData.eqvAll]
  | x :: xs, y :: ys => by
    simp only [List.map_cons, PyData.eqvAll, PyData.eqv, eqvAll_strs xs ys, beqS]
    by_cases h1 : x = y <;> by_cases h2 : xs = ys <;> simp [h1, h2]
theorem eqv_tol (a b : List Str) : PyData.eqv (tolD a) (tolD b) = decide (a = b) := by
  simp only [tolD, PyData.eqv, eqvAll_strs]
theorem mem_strs {x : Str} : ∀ {l : List Str}, (l.map PyData.str).any (fun y => PyData.eqv y (.str x)) = decide (x ∈ l)
  | [] => by simp
  | z :: l => by
    rw [List.map_cons, List.any_cons, mem_strs (l := l)]
    simp only [PyData.eqv, beqS]
    by_cases h : z = x
    · simp [h]
    · have h3 : ¬ x = z := fun e => h e.symm
      simp [h, h3]
theorem mem_tols {t : List Str} : ∀ {l : List (List Str)}, (l.map tolD).any (fun y => PyData.eqv y (tolD t)) = decide (t ∈ l)
  | [] => by simp
  | z :: l => by
    rw [List.map_cons, List.any_cons, mem_tols (l := l), eqv_tol]
    by_cases h : z = t
    · simp [h]
    · have h3 : ¬ t = z := fun e => h e.symm
      simp [h, h3]
theorem memD_str {x : Str} {l : List Str} : memD (.str x) (l.map .str) = some (decide (x ∈ l)) := by
  have : min (PyData.depthAll (l.map PyData.str)) (PyData.str x).depth ≤ depL := by
    have : (PyData.str x).depth = 0 := by simp [PyData.depth]
    unfold depL; omega
  simp only [memD, decide_eq_true this, isDct, Bool.not_false, Bool.and_self, if_true, mem_strs]
theorem dep_strs (w : List Str) : PyData.depthAll (w.map PyData.str) ≤ 1 := depthAll_map fun _ => by simp [PyData.depth]
theorem dep_tol (w : List Str) : (tolD w).depth ≤ 2 := by
  have := dep_strs w
  simp only [tolD, PyData.depth]; omega
theorem memD_tol {t : List Str} {l : List (List Str)} : memD (tolD t) (l.map tolD) = some (decide (t ∈ l)) := by
  have : min (PyData.depthAll (l.map tolD)) (tolD t).depth ≤ depL := by
    have := dep_tol t
    unfold depL; omega
  have h2 : isDct (tolD t) = false := rfl
  simp only [memD, decide_eq_true this, h2, Bool.not_false, Bool.and_self, if_true, mem_tols]
theorem cm_inSL {x : Str} {l : List Str} : Cm .In (.str x) (.list (l.map .str)) (decide (x ∈ l)) := ⟨memD_str⟩
theorem cm_niSL {x : Str} {l : List Str} : Cm .NotIn (.str x) (.list (l.map .str)) (!decide (x ∈ l)) := ⟨by show (memD _ _).map _ = _; rw [memD_str]; rfl⟩
theorem cm_niST {x : Str} {l : List Str} : Cm .NotIn (.str x) (.tuple (l.map .str)) (!decide (x ∈ l)) := ⟨by show (memD _ _).map _ = _; rw [memD_str]; rfl⟩
theorem cm_inTT {t : List Str} {l : List (List Str)} : Cm .In (tolD t) (.tuple (l.map tolD)) (decide (t ∈ l)) := ⟨memD_tol⟩
theorem cm_niTT {t : List Str} {l : List (List Str)} : Cm .NotIn (tolD t) (.tuple (l.map tolD)) (!decide (t ∈ l)) := ⟨by show (memD _ _).map _ = _; rw [memD_tol]; rfl⟩
theorem cm_eqTol {a b : List Str} : Cm .Eq (tolD a) (tolD b) (decide (a = b)) := ⟨by
  have e : eqOk (tolD a) (tolD b) = true := eqOk_l (by have := dep_tol a; omega) rfl rfl
  simp only [cmpD, e, if_true, eqv_tol]⟩
theorem cm_neTol {a b : List Str} : Cm .NotEq (tolD a) (tolD b) (!decide (a = b)) := ⟨by
  have e : eqOk (tolD a) (tolD b) = true := eqOk_l (by have := dep_tol a; omega) rfl rfl
  simp only [cmpD, e, if_true, eqv_tol]⟩
theorem cut_both {α : Type} (xs : List α) (a b : Nat) : cutL xs (some (a : Int)) (some (b : Int)) = (xs.drop a).take (b - a) := by
  simp only [cutL, HT.sIx_nat]
  by_cases h : a ≤ xs.length
  · rw [Nat.min_eq_left h, List.take_eq_take_iff]
    simp only [List.length_drop]
    omega
  · have h1 : xs.drop a = [] := List.drop_eq_nil_of_le (by omega)
    have h2 : xs.drop (min a xs.length) = [] := List.drop_eq_nil_of_le (by omega)
    rw [h1, h2]; simp
theorem slc_tol {w : List Str} {a b : Nat} : slcD (tolD w) (some (a : Int)) (some (b : Int)) = some (.dat (tolD ((w.drop a).take (b - a)))) := by
  simp only [tolD, slcD, cut_both, List.map_take, List.map_drop]
theorem slc_tolF {w : List Str} {a : Nat} : slcD (tolD w) (some (a : Int)) none = some (.dat (tolD (w.drop a))) := by
  simp only [tolD, slcD, cut_from, List.map_drop]
theorem slc_tolT {w : List Str} {a : Nat} : slcD (tolD w) none (some (a : Int)) = some (.dat (tolD (w.take a))) := by
  simp only [tolD, slcD, cut_to, List.map_take]
/-- a comprehension with a test, its term changes nothing -/
theorem ev_cprO {α : Type} {M : Mach} {e : E} {t : Tg} {it : Itr} {c : Ot} {own : List Nat} {env e1 : En} {f : α → D} {as : List α} (g : α → Option D) (hi : EvI M it env (as.map f) e1) (hn : as.length ≤ 16777216)
    (hs : ∀ a ∈ as, ∃ e', cB M e t c (f a) (wipeE e1 own) = .ok (g a, e') ∧ wipeE e' own = wipeE e1 own) : Ev M (.cpr e t it c own) env (.tl (as.filterMap g)) e1 := by
  obtain ⟨acc', e6, h1, h2, h3⟩ := loopC_inv (own := own) (f := cB M e t c) (fun i acc w => w = wipeE e1 own ∧ acc = (as.take i).filterMap g) (as.map f) 0 [] (wipeE e1 own) ⟨wipe_wipe _ _, by simp⟩ (by simp) (by simp; omega) (by
      intro j x acc w hx ⟨hw, ha⟩
      rw [List.getElem?_map] at hx
      obtain ⟨a, hy, rfl⟩ := Option.map_eq_some_iff.1 hx
      obtain ⟨e', h1, h2⟩ := hs a (List.mem_of_getElem? hy)
      refine ⟨g a, e', hw ▸ h1, h2, ?_⟩
      simp only [Nat.zero_add] at ha ⊢
      rw [List.take_add_one, hy, List.filterMap_append, ha]
      cases hg : g a <;> simp [hg])
  have h4 := back_of (e1 := e1) h2 (fun _ _ => rfl)
  have h5 : acc' = as.filterMap g := by simpa [List.take_of_length_le] using h3
  constructor
  simp only [evE, hi.eq, R.bind_ok]
  show (R.bind (loopC (fun x env => cB M e t c x (wipeE env own)) (as.map f) [] (wipeE e1 own)) _) = _
  rw [h1, R.bind_ok, h4, h5]
/-- the turn of it: the test, then the term -/
theorem cB_if {M : Mach} {e : E} {t : Tg} {c : T} {x d : D} {w e2 : En} {k : Bool} (h1 : asgD M t x w = some e2) (h2 : EvT M c e2 k e2) (h3 : k = true → Ev M e e2 (.dat d) e2) : cB M e t (.yes c) x w = .ok (if k then some d else none, e2) := by
  cases k with
  | true => exact cB_some h1 (evOt_yes h2) (h3 rfl) frz_dat
  | false => exact cB_none h1 (evOt_yes h2)
/-- enumerate of texts -/
theorem evI_enuT {M : Mach} {env e1 e2 : En} {e : E} {r : Rv} {xs : List D} (h : Ev M e env r e1) (f : Fz e1 r (.tuple xs) e2) : EvI M (.enu e) env (enuD xs) e2 := ⟨by simp [evI, h.eq, f.eq]⟩
theorem enu_strs (w : List Str) : enuD (w.map .str) = (List.range w.length).map fun i => .tuple [.int (i : Nat), .str (w.getD i ⟨#[]⟩)] := enu_map .str w _

def FS : List Str := [sL [97], sL [101], sL [111]]
def isF (z : Str) : Bool := decide (z ∈ FS)
theorem full_s (k : Nat) (T : Tng) : callF G (k + 1) n_full_names [.dat T.d] = .ok (.lst (FS.map .str)) [.dat T.d] := by kernel_rfl
abbrev nI (n : Nat) : D := .int (n : Int)

/-! texts as rows of signs -/
abbrev Lz (z : Str) : List Nat := z.cps.toList
abbrev sT (t : List Nat) : Str := ⟨t.toArray⟩
theorem sT_eta (z : Str) : sT (Lz z) = z := by cases z; rfl
theorem str_eq {x y : Str} : x = y ↔ Lz x = Lz y := ⟨fun h => by rw [h], fun h => by rw [← sT_eta x, ← sT_eta y, h]⟩
theorem sT_eq {l : List Nat} {m : Str} : sT l = m ↔ l = Lz m := by rw [str_eq]
theorem len_Lz (z : Str) : z.length = (Lz z).length := by simp [Str.length]
theorem cut_se (z : Str) {b e : Nat} (h : b ≤ e) : L2.cutS z (some (b : Int)) (some (e : Int)) = sT (((Lz z).drop b).take (e - b)) := by
  have h1 : HT.sIx z.length 0 (some (b : Int)) = min b z.length := by
    simp only [HT.sIx]; split <;> omega
  have h2 : HT.sIx z.length z.length (some (e : Int)) = min e z.length := by
    simp only [HT.sIx]; split <;> omega
  unfold L2.cutS
  rw [h1, h2, len_Lz]
  rw [str_eq]
  simp only [Lz]
  apply List.ext_getElem?
  intro i
  simp only [List.getElem?_take, List.getElem?_drop]
  by_cases hb : b ≤ (z.cps.toList).length
  · rw [Nat.min_eq_left hb]
    by_cases hi : b + i < (z.cps.toList).length
    · by_cases h3 : i < e - b
      · rw [if_pos (by omega), if_pos h3]
      · rw [if_neg (by omega), if_neg h3]
    · rw [List.getElem?_eq_none (show (z.cps.toList).length ≤ b + i by omega)]; simp
  · rw [if_neg (by omega), List.getElem?_eq_none (by omega)]; simp
theorem cut_to (z : Str) (e : Nat) : L2.cutS z none (some (e : Int)) = sT ((Lz z).take e) := by
  have h2 : HT.sIx z.length z.length (some (e : Int)) = min e z.length := by
    simp only [HT.sIx]; split <;> omega
  unfold L2.cutS
  rw [h2, len_Lz, show HT.sIx (Lz z).length 0 none = 0 from rfl, str_eq]
  simp [Lz, List.take_eq_take_iff]
theorem cut_fr (z : Str) (b : Nat) : L2.cutS z (some (b : Int)) none = sT ((Lz z).drop b) := by
  have h1 : HT.sIx z.length 0 (some (b : Int)) = min b z.length := by
    simp only [HT.sIx]; split <;> omega
  unfold L2.cutS
  rw [h1, len_Lz, show HT.sIx (Lz z).length (Lz z).length none = (Lz z).length from rfl, str_eq]
  simp only [Lz]
  by_cases hb : b ≤ (z.cps.toList).length
  · rw [Nat.min_eq_left hb, List.take_of_length_le (by simp)]
  · rw [Nat.min_eq_right (by omega), List.drop_eq_nil_of_le (Nat.le_refl _), List.drop_eq_nil_of_le (by omega)]; simp
theorem sub_at (x y : Str) (i : Nat) : Builtin.Str.subAt x y i = decide (((Lz x).drop i).take (Lz y).length = Lz y) := by
  unfold Builtin.Str.subAt
  have e : (x.cps.extract i (i + y.length)).toList = ((Lz x).drop i).take (Lz y).length := by
    rw [Array.toList_extract]
    simp [List.extract, Lz, Str.length]
  by_cases h : ((Lz x).drop i).take (Lz y).length = Lz y
  · rw [decide_eq_true h, beq_iff_eq]
    rw [← e] at h
    exact Array.toList_inj.1 h
  · rw [decide_eq_false h, beq_eq_false_iff_ne]
    intro q
    rw [← e] at h
    exact h (by rw [q])
theorem sw_eq (x y : Str) : Txt.startswith x y = decide ((Lz x).take (Lz y).length = Lz y) := by
  have hx : (Lz x).length = x.cps.size := by simp [Lz]
  have hy : (Lz y).length = y.cps.size := by simp [Lz]
  unfold Txt.startswith
  rw [sub_at, List.drop_zero]
  by_cases h : (Lz x).take (Lz y).length = Lz y
  · have hl := congrArg List.length h
    rw [decide_eq_true h]
    simp only [List.length_take] at hl
    simp [len_Lz]; omega
  · rw [decide_eq_false h]; simp
theorem ew_eq (x y : Str) : Txt.endswith x y = decide ((Lz x).drop ((Lz x).length - (Lz y).length) = Lz y) := by
  have hx : (Lz x).length = x.cps.size := by simp [Lz]
  have hy : (Lz y).length = y.cps.size := by simp [Lz]
  unfold Txt.endswith
  rw [sub_at, len_Lz, len_Lz]
  by_cases h : (Lz x).drop ((Lz x).length - (Lz y).length) = Lz y
  · have hl := congrArg List.length h
    simp only [List.length_drop] at hl
    rw [decide_eq_true h, List.take_of_length_le (by simp; omega), decide_eq_true h]
    simp; omega
  · rw [decide_eq_false h]
    by_cases h2 : (Lz y).length ≤ (Lz x).length
    · rw [List.take_of_length_le (by simp; omega), decide_eq_false h]; simp
    · simp; omega

/-! words said -/
def enP (p : Ent1) : D := .tuple [.str p.1, tolD p.2]
def tgD (a : D) (rs : List Rul) (en : List Ent1) (b c : D) : D := .tuple [a, .tuple (rs.map Rul.d), .tuple (en.map enP), b, c]
theorem tng_eq (T : Tng) : T.d = tgD T.sd T.rs T.en (.tuple (T.on.map tolD)) wordsD := rfl
theorem wx_t1 {a b c : D} {rs : List Rul} {en : List Ent1} {K : D → Prop} (k : K (.tuple (rs.map Rul.d))) : Wx (some (tgD a rs en b c)) (some (.int 1)) K := wx_of rfl k
theorem wx_t2 {a b c : D} {rs : List Rul} {en : List Ent1} {K : D → Prop} (k : K (.tuple (en.map enP))) : Wx (some (tgD a rs en b c)) (some (.int 2)) K := wx_of rfl k
theorem wx_r1 {x : Rul} {K : D → Prop} (k : K (.str x.m)) : Wx (some x.d) (some (.int 1)) K := wx_of rfl k
theorem wx_r3 {x : Rul} {K : D → Prop} (k : K (tolD x.t)) : Wx (some x.d) (some (.int 3)) K := wx_of rfl k
def stB (x : Rul) (w : Str) (p : Nat) : Bool :=
  decide (((Lz w).drop p).take (Lz x.m).length = Lz x.m) && ((if x.l = sL [94] then decide (p = 0) else decide (((Lz w).take p).drop (((Lz w).take p).length - (Lz x.l).length) = Lz x.l)) &&
    (if x.r = sL [36] then decide (p + (Lz x.m).length = (Lz w).length) else decide (((Lz w).drop (p + (Lz x.m).length)).take (Lz x.r).length = Lz x.r)))
theorem Lz_sT (l : List Nat) : Lz (sT l) = l := rfl
theorem stands_s {k : Nat} {x : Rul} {w : Str} {p : Nat} : callF G (k + 1) n_stands [.dat x.d, .dat (.str w), .dat (.int p)] = .ok (.dat (.bool (stB x w p))) [.dat x.d, .dat (.str w), .dat (.int p)] := by
  refine callS_eq ?_
  refine callM (F := i_stands.fn) rfl rfl m_stands (by repeat' first | exact frm_0 | apply frm_c | apply frm_s) ?_
  (show_term fail)
  rw [len_Lz, show ((p : Int) + ((Lz x.m).length : Int)) = ((p + (Lz x.m).length : Nat) : Int) by omega, cut_se _ (by omega), show p + (Lz x.m).length - p = (Lz x.m).length by omega]
  (show_term first | (first | refine br_t rfl ?_ | refine br_f rfl ?_ | with_reducible refine br_d (fun hb => ?_) (fun hb => ?_) | with_reducible refine br_nd (fun hb => ?_) (fun hb => ?_) | with_reducible refine br_dn (fun hb => ?_) (fun hb => ?_) | with_reducible refine br_b (fun hb => ?_) (fun hb => ?_) | with_reducible refine br_n (fun hb => ?_) (fun hb => ?_) | refine br (fun hb => ?_) (fun hb => ?_)))
  · refine ⟨?_, rfl⟩
    have hb : ¬ ((Lz w).drop p).take (Lz x.m).length = Lz x.m := fun e => hb (sT_eq.2 e)
    simp only [stB, decide_eq_false hb, Bool.false_and]
  all_goals refine ⟨?_, rfl⟩
  all_goals (try simp only [ew_eq, sw_eq, cut_to, cut_fr, truD, decide_eq_true_eq, decide_eq_false_iff_not, len_Lz] at *)
  all_goals (try (simp only [show ∀ l : List Nat, Lz (sT l) = l from fun _ => rfl] at *))
  all_goals simp_all [stB, sT_eq]
  all_goals omega
/-! the rules of a word -/
def nulR : Rul := ⟨⟨#[]⟩, ⟨#[]⟩, ⟨#[]⟩, []⟩
def rAt (rs : List Rul) (i : Nat) : Rul := rs.getD i nulR
def byR (rs : List Rul) (w : Str) : Nat → Nat → Except Nat (List (Nat × Nat))
  | 0, _ => .ok []
  | n + 1, p => if p < (Lz w).length then match rs.findIdx? (fun x => stB x w p) with
      | none => .error p
      | some i => match byR rs w n (p + (Lz (rAt rs i).m).length) with
        | .ok r => .ok ((p, i) :: r)
        | .error e => .error e
    else .ok []
def appE (f : List (Nat × Nat)) : Except Nat (List (Nat × Nat)) → Except Nat (List (Nat × Nat))
  | .ok r => .ok (f ++ r)
  | .error e => .error e
def prI (y : Nat × Nat) : D := .tuple [.int y.1, .int y.2]
theorem enu_zip {α : Type} (f : α → D) (as : List α) : enuD (as.map f) = as.zipIdx.map fun y => .tuple [.int (y.2 : Nat), f y.1] := by
  apply List.ext_getElem?
  intro i
  unfold enuD
  rw [List.getElem?_zipWith, List.getElem?_map, List.getElem?_map, List.getElem?_zipIdx]
  by_cases h : i < as.length
  · rw [List.getElem?_range (by simpa using h), List.getElem?_eq_getElem h]; simp
  · rw [List.getElem?_eq_none (show as.length ≤ i by omega)]
    rw [List.getElem?_eq_none (by simp; omega)]; rfl
theorem fi_z {α : Type} (q : α → Bool) : ∀ (as : List α) (n : Nat), ((as.zipIdx n).filter fun y => q y.1).map (·.2) = (match as.findIdx? q with | none => [] | some i => (n + i) :: (((as.zipIdx n).filter fun y => q y.1).map (·.2)).tail)
  | [], n => rfl
  | a :: as, n => by
    rw [List.zipIdx_cons, List.filter_cons, List.findIdx?_cons]
    by_cases h : q a = true
    · simp [h]
    · have ih := fi_z q as (n + 1)
      simp only [h, Bool.false_eq_true, if_false]
      rw [ih]
      cases as.findIdx? q with
      | none => rfl
      | some i => simp; omega
/-- rules that take a sign at least -/
structure RsOk (rs : List Rul) : Prop where
  m : ∀ x ∈ rs, 0 < (Lz x.m).length
  t : ∀ x ∈ rs, x.t.length ≤ 100
  n : rs.length ≤ 100
theorem byR_ok {rs : List Rul} {w : Str} : ∀ (n p : Nat) (r : List (Nat × Nat)), byR rs w n p = .ok r → r.length ≤ n ∧ ∀ y ∈ r, y.2 < rs.length
  | 0, p, r, h => by cases h; simp
  | n + 1, p, r, h => by
    unfold byR at h
    split at h
    · split at h
      · cases h
      · rename_i i hi
        split at h
        · rename_i r' hr
          cases h
          obtain ⟨h1, h2⟩ := byR_ok n _ r' hr
          refine ⟨by simp; omega, fun y hy => ?_⟩
          rcases List.mem_cons.1 hy with rfl | hy
          · have := List.findIdx?_eq_some_iff_getElem.1 hi
            exact this.1
          · exact h2 y hy
        · cases h
    · cases h; simp
theorem ix_hd {i : Nat} {l : List Nat} {K : D → Prop} (k : K (.int (i : Nat))) : Wx (some (.list ((i :: l).map nD))) (some (.int 0)) K := wx_of (idx_L (by omega) (by simp)) k
theorem byrules_c {k : Nat} {a b c : D} {rs : List Rul} {en : List Ent1} {w : Str} {Q : Sv → List Sv → Prop} {X : Nat → Option D → List Sv → Prop} (hr : RsOk rs) (hw : (Lz w).length ≤ 1000)
    (q : ∀ r, byR rs w ((Lz w).length + 1) 0 = .ok r → Q (.dat (.tuple (r.map prI))) [.dat (tgD a rs en b c), .dat (.str w)]) (x : ∀ e, byR rs w ((Lz w).length + 1) 0 = .error e → X x_NoRule (some (.int e)) [.dat (tgD a rs en b c), .dat (.str w)]) : CallS G (k + 2) n_by_rules [.dat (tgD a rs en b c), .dat (.str w)] Q X := by
  refine callM (F := i_by_rules.fn) rfl rfl m_by_rules (by repeat' first | exact frm_0 | apply frm_c | apply frm_s) ?_
  (show_term fail)
  refine ww_inv (fun m env => ∃ (p : Nat) (fd : List (Nat × Nat)) (o4 o5 o6 : Option Sv), env = [some (.dat (tgD a rs en b c)), some (.dat (.str w)), some (.lst (fd.map prI)), some (.dat (.int p)), o4, o5, o6] ∧ m = (Lz w).length - p ∧ fd.length ≤ p ∧ fd.length ≤ (Lz w).length ∧ ∃ n, (Lz w).length < n + p ∧ appE fd (byR rs w n p) = byR rs w ((Lz w).length + 1) 0) ?_ _ (Lz w).length (by show _ < 100000; omega) ⟨0, [], _, _, _, rfl, by omega, by simp, by simp, (Lz w).length + 1, by omega, by cases byR rs w ((Lz w).length + 1) 0 <;> rfl⟩
  rintro m env ⟨p, fd, o4, o5, o6, rfl, rfl, hf, hfl, n, hn, he⟩
  (show_term fail)
  rw [len_Lz]
  by_cases hlt : p < (Lz w).length
  · obtain ⟨n, rfl⟩ : ∃ n', n = n' + 1 := ⟨n - 1, by omega⟩
    have hfz := fi_z (fun x => stB x w p) rs 0
    rw [byR, if_pos hlt] at he
    (show_term first | ((first | refine br_t rfl ?_ | refine br_f rfl ?_ | with_reducible refine br_d (fun hb => ?_) (fun hb => ?_) | with_reducible refine br_nd (fun hb => ?_) (fun hb => ?_) | with_reducible refine br_dn (fun hb => ?_) (fun hb => ?_) | with_reducible refine br_b (fun hb => ?_) (fun hb => ?_) | with_reducible refine br_n (fun hb => ?_) (fun hb => ?_) | refine br (fun hb => ?_) (fun hb => ?_)); all_goals (try (first | exact absurd (by with_reducible assumption) hb | exact absurd hb (by with_reducible assumption) | (exfalso; omega)))) | refine wx_t1 ?_)
    rw [enu_zip]
    refine wcp_fil (as := rs.zipIdx) (f := fun y => PyData.tuple [.int (y.2 : Nat), y.1.d]) (fun y => stB y.1 w p) (fun y => .int (y.2 : Nat)) (by have := hr.n; simp; omega) (fun y hy => wcb ?_) ?_
    · (show_term first | (refine call_ ?_; refine callS_ok stands_s ?_) | (first | refine br_t rfl ?_ | refine br_f rfl ?_ | with_reducible refine br_d (fun hb => ?_) (fun hb => ?_) | with_reducible refine br_nd (fun hb => ?_) (fun hb => ?_) | with_reducible refine br_dn (fun hb => ?_) (fun hb => ?_) | with_reducible refine br_b (fun hb => ?_) (fun hb => ?_) | with_reducible refine br_n (fun hb => ?_) (fun hb => ?_) | refine br (fun hb => ?_) (fun hb => ?_)))
      · exact ⟨by rw [if_pos hb], rfl⟩
      · exact ⟨by rw [if_neg (by rw [hb]; simp)], rfl⟩
    rw [show (rs.zipIdx.filter fun y => stB y.1 w p).map (fun y => PyData.int (y.2 : Nat)) = ((rs.zipIdx.filter fun y => stB y.1 w p).map (·.2)).map nD by rw [List.map_map]; rfl, hfz]
    cases hi : rs.findIdx? (fun x => stB x w p) with
    | none =>
      rw [hi] at he
      (show_term fail)
      exact x p (by rw [← he]; rfl)
    | some i =>
      rw [hi] at he
      have hil : i < rs.length := (List.findIdx?_eq_some_iff_getElem.1 hi).1
      dsimp only
      rw [Nat.zero_add]
      have hm := hr.m _ (List.getElem_mem hil)
      have hra : rAt rs i = rs[i] := by rw [rAt, List.getD_eq_getElem?_getD, List.getElem?_eq_getElem hil]; rfl
      (show_term first | refine wx_t1 ?_ | refine ix_hd ?_ | (refine wx_ ?_; first | refine wx_TN (by omega) ?_ | refine wx_LN (by omega) ?_) | refine wx_r1 ?_)
      rw [len_Lz]
      refine ⟨(Lz w).length - (p + (Lz rs[i].m).length), by omega, p + (Lz rs[i].m).length, fd ++ [(p, i)], _, _, _, by simp [prI]; exact ⟨rfl, rfl, rfl⟩, rfl, by rw [List.length_append, List.length_singleton]; omega, by rw [List.length_append, List.length_singleton]; omega, n, by omega, ?_⟩
      dsimp only at he
      rw [hra] at he
      rw [← he]
      cases byR rs w n (p + (Lz rs[i].m).length) <;> simp [appE]
  · have e0 : byR rs w n p = .ok [] := by
      cases n with
      | zero => rfl
      | succ n => rw [byR, if_neg hlt]
    rw [e0] at he
    (show_term first | ((first | refine br_t rfl ?_ | refine br_f rfl ?_ | with_reducible refine br_d (fun hb => ?_) (fun hb => ?_) | with_reducible refine br_nd (fun hb => ?_) (fun hb => ?_) | with_reducible refine br_dn (fun hb => ?_) (fun hb => ?_) | with_reducible refine br_b (fun hb => ?_) (fun hb => ?_) | with_reducible refine br_n (fun hb => ?_) (fun hb => ?_) | refine br (fun hb => ?_) (fun hb => ?_)); all_goals (try (first | exact absurd (by with_reducible assumption) hb | exact absurd hb (by with_reducible assumption) | (exfalso; omega)))))
    exact q fd (by rw [← he]; simp [appE])
/-- what the list tells -/
def lkp (en : List Ent1) (w : Str) : Option (List Str) := (en.find? fun p => decide (p.1 = w)).map (·.2)
def optT : Option (List Str) → D
  | none => .none
  | some t => tolD t
theorem listed_s {k : Nat} {a b c : D} {rs : List Rul} {en : List Ent1} {w : Str} : callF G (k + 1) n_listed [.dat (tgD a rs en b c), .dat (.str w)] = .ok (.dat (optT (lkp en w))) [.dat (tgD a rs en b c), .dat (.str w)] := by
  refine callS_eq ?_
  refine callM (F := i_listed.fn) rfl rfl m_listed (by repeat' first | exact frm_0 | apply frm_c | apply frm_s) ?_
  (show_term first | refine wx_t2 ?_)
  refine wf_inv (f := enP) (fun pre env => ∃ (o2 o3 : Option Sv), env = [some (.dat (tgD a rs en b c)), some (.dat (.str w)), o2, o3] ∧ pre.find? (fun p => decide (p.1 = w)) = none) _ [] ⟨_, _, rfl, rfl⟩ ?_ ?_
  · rintro pre y suf env he ⟨o2, o3, rfl, hp⟩
    have he : en = pre ++ y :: suf := by simpa using he
    (show_term first | (first | refine br_t rfl ?_ | refine br_f rfl ?_ | with_reducible refine br_d (fun hb => ?_) (fun hb => ?_) | with_reducible refine br_nd (fun hb => ?_) (fun hb => ?_) | with_reducible refine br_dn (fun hb => ?_) (fun hb => ?_) | with_reducible refine br_b (fun hb => ?_) (fun hb => ?_) | with_reducible refine br_n (fun hb => ?_) (fun hb => ?_) | refine br (fun hb => ?_) (fun hb => ?_)))
    · refine ⟨?_, rfl⟩
      rw [lkp, he, List.find?_append, hp]
      simp [hb, optT, List.find?_cons]
    · exact ⟨_, _, rfl, by rw [List.find?_append, hp]; simp [List.find?_cons, hb]⟩
  · rintro env ⟨o2, o3, rfl, hp⟩
    (show_term fail)
    exact ⟨by rw [lkp, show en.find? (fun p => decide (p.1 = w)) = none by simpa using hp]; rfl, rfl⟩
def sayF (rs : List Rul) (w : Str) : Except Nat (List Str) := match byR rs w ((Lz w).length + 1) 0 with
  | .ok r => .ok (r.flatMap fun y => (rAt rs y.2).t)
  | .error e => .error e
theorem flat_len {rs : List Rul} (hr : RsOk rs) : ∀ r : List (Nat × Nat), (∀ y ∈ r, y.2 < rs.length) → (r.flatMap fun y => (rAt rs y.2).t).length ≤ 100 * r.length
  | [], _ => by simp
  | y :: r, h => by
    have ih := flat_len hr r fun z hz => h z (by simp [hz])
    have hy := h y (by simp)
    have := hr.t _ (List.getElem_mem hy)
    have hra : rAt rs y.2 = rs[y.2] := by rw [rAt, List.getD_eq_getElem?_getD, List.getElem?_eq_getElem hy]; rfl
    rw [List.flatMap_cons, List.length_append, hra, List.length_cons]
    omega
theorem saidr_c {k : Nat} {a b c : D} {rs : List Rul} {en : List Ent1} {w : Str} {Q : Sv → List Sv → Prop} {X : Nat → Option D → List Sv → Prop} (hr : RsOk rs) (hw : (Lz w).length ≤ 1000)
    (q : ∀ r, sayF rs w = .ok r → Q (.dat (tolD r)) [.dat (tgD a rs en b c), .dat (.str w)]) (x : ∀ e, sayF rs w = .error e → X x_NoRule (some (.int e)) [.dat (tgD a rs en b c), .dat (.str w)]) : CallS G (k + 3) n_said_by_rules [.dat (tgD a rs en b c), .dat (.str w)] Q X := by
  refine callM (F := i_said_by_rules.fn) rfl rfl m_said_by_rules (by repeat' first | exact frm_0 | apply frm_c | apply frm_s) ?_
  (show_term first | (refine call_ ?_; refine byrules_c hr hw (fun r hrr => ?_) (fun e he => ?_)))
  · obtain ⟨h1, h2⟩ := byR_ok _ _ r hrr
    have h3 := flat_len hr r h2
    refine wc2_map (f := prI) (fun y => (rAt rs y.2).t.map .str) (by simp) (by rw [show (r.flatMap fun y => (rAt rs y.2).t.map PyData.str) = (r.flatMap fun y => (rAt rs y.2).t).map .str by rw [List.map_flatMap]]; simp only [List.length_map]; omega) (fun y hy => ?_) ?_
    · have hyl := h2 y hy
      have hra : rAt rs y.2 = rs[y.2] := by rw [rAt, List.getD_eq_getElem?_getD, List.getElem?_eq_getElem hyl]; rfl
      have ht := hr.t _ (List.getElem_mem hyl)
      rw [hra]
      (show_term fail)
      refine ⟨rfl, ?_⟩
      (show_term first | refine wx_t1 ?_ | (refine wx_ ?_; first | refine wx_TN (by omega) ?_ | refine wx_LN (by omega) ?_) | refine wx_r3 ?_)
      refine wcp_map (f := PyData.str) PyData.str (by omega) (fun z hz => wcb ?_) ?_
      · (show_term fail)
        exact ⟨rfl, rfl⟩
      · exact ⟨rfl, rfl⟩
    · (show_term fail)
      have hq := q (r.flatMap fun y => (rAt rs y.2).t) (by unfold sayF; rw [hrr])
      rw [show (r.flatMap fun y => (rAt rs y.2).t.map PyData.str) = (r.flatMap fun y => (rAt rs y.2).t).map .str by rw [List.map_flatMap]]
      exact hq
  · exact x e (by unfold sayF; rw [he])
def say (rs : List Rul) (en : List Ent1) (w : Str) : Except Nat (List Str) := match lkp en w with
  | some t => .ok t
  | none => sayF rs w
theorem said_c {k : Nat} {a b c : D} {rs : List Rul} {en : List Ent1} {w : Str} {Q : Sv → List Sv → Prop} {X : Nat → Option D → List Sv → Prop} (hr : RsOk rs) (hw : (Lz w).length ≤ 1000)
    (q : ∀ r, say rs en w = .ok r → Q (.dat (tolD r)) [.dat (tgD a rs en b c), .dat (.str w)]) (x : ∀ e, say rs en w = .error e → X x_NoRule (some (.int e)) [.dat (tgD a rs en b c), .dat (.str w)]) : CallS G (k + 4) n_said [.dat (tgD a rs en b c), .dat (.str w)] Q X := by
  refine callM (F := i_said.fn) rfl rfl m_said (by repeat' first | exact frm_0 | apply frm_c | apply frm_s) ?_
  (show_term first | (refine call_ ?_; refine callS_ok listed_s ?_))
  cases hl : lkp en w with
  | none =>
    (show_term first | (refine call_ ?_; refine saidr_c hr hw (fun r hrr => ?_) (fun e he => ?_)))
    · exact q r (by unfold say; rw [hl]; exact hrr)
    · exact x e (by unfold say; rw [hl]; exact he)
  | some t =>
    (show_term fail)
    exact q t (by unfold say; rw [hl])
/-! drawn tongues: what their rules and lists are -/
theorem rs_ok {T : Tng} {b : Bool} (h : T.ok b) : RsOk T.rs := ⟨fun x hx => by
  have := (h.rs x hx).m
  revert this
  generalize x.m = z
  intro hz
  simp only [RM, List.mem_cons, List.not_mem_nil, or_false] at hz
  rcases hz with rfl | rfl | rfl | rfl | rfl | rfl | rfl | rfl | rfl <;> decide, fun x hx => by have := (h.rs x hx).n; omega, by have := h.rn; omega⟩
theorem lt_irr (x : Str) : ltCps x x = false := by
  unfold ltCps
  exact decide_eq_false (List.lt_irrefl _)
theorem en_nodup {en : List Ent1} (h : en.Pairwise fun p q => ltCps p.1 q.1 = true) : (en.map (·.1)).Nodup := by
  rw [List.Nodup, List.pairwise_map]
  refine h.imp fun {p q} hpq e => ?_
  rw [e, lt_irr] at hpq; cases hpq
theorem pairs_en : ∀ en : List Ent1, pairsOf (en.map enP) = some (en.map enD)
  | [] => rfl
  | p :: en => by
    show (pairsOf (en.map enP)).map _ = _
    rw [pairs_en en]; rfl
theorem putAll_en : ∀ (en pre : List Ent1), ((pre ++ en).map (·.1)).Nodup → putAll (pre.map enD) (en.map enD) = some ((pre ++ en).map enD)
  | [], pre, _ => by simp [putAll]
  | p :: en, pre, h => by
    show putAll (dPut (pre.map enD) (.str p.1) (.inr p.1) (tolD p.2)) (en.map enD) = _
    have hp : p.1 ∉ pre.map (·.1) := by
      rw [List.map_append, List.nodup_append] at h
      exact fun hm => h.2.2 _ hm p.1 (by simp) rfl
    have e : dPut (pre.map enD) (.str p.1) (.inr p.1) (tolD p.2) = (pre ++ [p]).map enD := by
      rw [put_en, putE, if_neg]
      intro ha
      obtain ⟨q, hq, hq2⟩ := List.any_eq_true.1 ha
      exact hp (List.mem_map.2 ⟨q, hq, of_decide_eq_true hq2⟩)
    rw [e, putAll_en en (pre ++ [p]) (by rw [List.append_assoc]; exact h), List.append_assoc]; rfl
theorem dct_en {en : List Ent1} (hn : (en.map (·.1)).Nodup) (hl : en.length ≤ 1000) : dctD (.tuple (en.map enP)) = some (en.map enD) := by
  have hc : cleanB (en.map enP) = true := by
    cases en with
    | nil => rfl
    | cons p en => unfold cleanB; simp [keysOf, enP, keyOf]
  have hs : statB (en.map enP) = false := by
    rcases en with _ | ⟨p, _ | ⟨q, _ | ⟨r, _ | ⟨s, en⟩⟩⟩⟩ <;> rfl
  show (if ((cleanB (en.map enP) && !statB (en.map enP)) && sizeOk (en.map enP).length) = true then (pairsOf (en.map enP)).bind (putAll []) else none) = _
  rw [hc, hs, sizeOk_of (by simp; omega), pairs_en]
  exact putAll_en en [] hn
theorem dctG {en : List Ent1} {K : List (D × D) → Prop} (hn : (en.map (·.1)).Nodup) (hl : en.length ≤ 1000) (k : K (en.map enD)) : ∃ kvs, dctD (.tuple (en.map enP)) = some kvs ∧ K kvs := ⟨_, dct_en hn hl, k⟩
theorem dVal_lk (en : List Ent1) (w : Str) : dVal (en.map enD) (.inr w) = (lkp en w).map tolD := by
  unfold dVal lkp
  induction en with
  | nil => rfl
  | cons p en ih =>
    rw [List.map_cons, List.find?_cons, List.find?_cons]
    by_cases h : p.1 = w
    · simp [enD, keyOf, h]
    · have h2 : decide (keyOf (enD p).1 = some (.inr w)) = false := by simp [enD, keyOf, h]
      rw [h2, decide_eq_false h]
      exact ih
theorem wc_inEn {en : List Ent1} {w : Str} {K : Bool → Prop} (k : K (lkp en w).isSome) : Wc .In (some (.str w)) (some (.dict (en.map enD))) K := wc_of ⟨by
  show ((some (.inr w) : Option L2.Key).map fun q => (dVal (en.map enD) q).isSome) = _
  rw [Option.map_some, dVal_lk, Option.isSome_map]⟩ k
theorem wx_En {en : List Ent1} {w : Str} {t : List Str} {K : D → Prop} (h : lkp en w = some t) (k : K (tolD t)) : Wx (some (.dict (en.map enD))) (some (.str w)) K := wx_of (by
  show ((some (.inr w) : Option L2.Key).bind fun q => dVal (en.map enD) q) = _
  rw [Option.bind_some, dVal_lk, h]; rfl) k
theorem lkp_mem {en : List Ent1} {w : Str} {t : List Str} (h : lkp en w = some t) : (w, t) ∈ en := by
  unfold lkp at h
  obtain ⟨p, hp, rfl⟩ := Option.map_eq_some_iff.1 h
  have h1 := List.mem_of_find?_eq_some hp
  have h2 : p.1 = w := by simpa using List.find?_some hp
  rw [← h2]; exact h1
theorem Lz_app (x y : Str) : Lz (x ++ y) = Lz x ++ Lz y := by
  show (x.cps ++ y.cps).toList = _
  simp [Lz]
def L5s : List Str := [sL [97], sL [98], sL [101], sL [115], sL [116]]
theorem word_c {k : Nat} {ns : List Int} {ts : List D} {m : Int} {Q : Sv → List Sv → Prop} {X : Nat → Option D → List Sv → Prop} (hn : ns.length ≤ 63) (hT : Town ts) (hl : ts.length ≤ 90000) (h0 : 0 < m) (h1 : m ≤ 50)
    (q : ∀ (w : Str) (ts' : List D), 0 < (Lz w).length → ((Lz w).length : Int) ≤ m → (∀ c ∈ Lz w, c ∈ LT) → Town ts' → ts'.length ≤ ts.length + 110 → Q (.dat (.str w)) [.dat (Sd ns), .lst ts', .dat (.int m)]) : CallS G (k + 3) n__law_drawn_word [.dat (Sd ns), .lst ts, .dat (.int m)] Q X := by
  refine callM (F := i__law_drawn_word.fn) rfl rfl m__law_drawn_word (by repeat' first | exact frm_0 | apply frm_c | apply frm_s) ?_
  (show_term first | (refine call_ ?_; refine draw_c hn (by assumption) (by omega) (by omega) (fun rA tA rA0 rA1 hTA hLA => ?_)))
  refine wf_inv (f := nD) (fun pre env => ∃ (ts2 : List D) (w : Str) (o4 : Option Sv), env = [some (.dat (Sd ns)), some (.lst ts2), some (.dat (.int m)), some (.dat (.str w)), o4] ∧ (Lz w).length = pre.length ∧ (∀ c ∈ Lz w, c ∈ LT) ∧ Town ts2 ∧ ts2.length ≤ tA.length + 2 * pre.length) _ [] ⟨_, _, _, rfl, rfl, (fun c hc => nomatch hc), hTA, by simp⟩ ?_ ?_
  · rintro pre a suf env he ⟨ts2, w, o4, rfl, hwl, hwc, hT2, hL2⟩
    have hlen := congrArg List.length he
    simp only [List.nil_append, List.length_range, List.length_append, List.length_cons] at hlen
    have hz1 : ∀ z : Str, z ∈ [sL [97], sL [98], sL [101], sL [115], sL [116]] → (Lz z).length = 1 ∧ (∀ c ∈ Lz z, c ∈ LT) := by
      intro z hz
      simp only [List.mem_cons, List.not_mem_nil, or_false] at hz
      rcases hz with rfl | rfl | rfl | rfl | rfl <;> decide
    (show_term first | (refine call_ ?_; refine pick_cS (by repeat' first | exact strs_nil | apply strs_cons) hn (by assumption) (by omega) (by simp) (by simp) (fun z ts hz hT hL => ?_)))
    have := hz1 z hz
    refine wb_addS (by rw [len_Lz, len_Lz]; omega) ?_
    (show_term fail)
    refine ⟨_, w ++ z, _, rfl, by rw [Lz_app, List.length_append, List.length_append, List.length_singleton]; omega, ?_, by assumption, by rw [List.length_append, List.length_singleton]; omega⟩
    intro c hc
    rw [Lz_app] at hc
    exact (List.mem_append.1 hc).elim (hwc c) (this.2 c)
  · rintro env ⟨ts2, w, o4, rfl, hwl, hwc, hT2, hL2⟩
    simp only [List.nil_append, List.length_range] at hwl hL2
    (show_term fail)
    exact q w ts2 (by omega) (by omega) hwc hT2 (by omega)
theorem wc_eqL0 {xs : List D} {K : Bool → Prop} (k : K xs.isEmpty) : Wc .Eq (some (.list xs)) (some (.list [])) K := by
  refine wc_of ⟨?_⟩ k
  have e : eqOk (.list xs) (.list []) = true := by
    unfold eqOk
    rw [decide_eq_true (show min (PyData.list xs).depth (PyData.list []).depth ≤ depL by simp only [PyData.depth, PyData.depthAll]; unfold depL; omega)]; rfl
  show (if eqOk (.list xs) (.list []) = true then some (PyData.eqv (.list xs) (.list [])) else none) = _
  rw [if_pos e]
  cases xs <;> simp [PyData.eqv, PyData.eqvAll]
theorem lst_take {w : Str} {m : Str} {p : Nat} (h0 : 0 < (Lz m).length) (h : ((Lz w).drop p).take (Lz m).length = Lz m) : p + (Lz m).length ≤ (Lz w).length := by
  have := congrArg List.length h
  simp only [List.length_take, List.length_drop] at this
  omega
def sndsOf (rs : List Rul) (r : List (Nat × Nat)) : List Str := r.flatMap fun y => (rAt rs y.2).t
theorem wb_addTol {a b : List Str} {K : Rv → Prop} (h : a.length + b.length ≤ 1000000) (k : K (.dat (tolD (a ++ b)))) : Wb .Add (some (tolD a)) (some (tolD b)) K := wb_addT (xs := a.map .str) (ys := b.map .str) (by simp; omega) (by simpa [tolD] using k)
theorem lstands_s {k : Nat} {x : Rul} {w : Str} {p : Nat} (hx : 0 < (Lz x.m).length) : callF G (k + 1) n__law_stands [.dat x.d, .dat (.str w), .dat (.int p)] = .ok (.dat (.bool (stB x w p))) [.dat x.d, .dat (.str w), .dat (.int p)] := by
  refine callS_eq ?_
  refine callM (F := i__law_stands.fn) rfl rfl m__law_stands (by repeat' first | exact frm_0 | apply frm_c | apply frm_s) ?_
  (show_term fail)
  rw [len_Lz, show ((p : Int) + ((Lz x.m).length : Int)) = ((p + (Lz x.m).length : Nat) : Int) by omega, cut_se _ (by omega), show p + (Lz x.m).length - p = (Lz x.m).length by omega]
  refine (br_nd (fun hb => ?_) fun hb => ?_)
  · (show_term fail)
    refine ⟨?_, rfl⟩
    have hb : ¬ ((Lz w).drop p).take (Lz x.m).length = Lz x.m := fun e => hb (sT_eq.2 e)
    simp only [stB, decide_eq_false hb, Bool.false_and]
  have hm : ((Lz w).drop p).take (Lz x.m).length = Lz x.m := sT_eq.1 hb
  have hle := lst_take hx hm
  (show_term first | (rw [len_Lz w]; refine wc_ ?_; refine wc_lt ?_) | ((first | refine br_t rfl ?_ | refine br_f rfl ?_ | with_reducible refine br_d (fun hb => ?_) (fun hb => ?_) | with_reducible refine br_nd (fun hb => ?_) (fun hb => ?_) | with_reducible refine br_dn (fun hb => ?_) (fun hb => ?_) | with_reducible refine br_b (fun hb => ?_) (fun hb => ?_) | with_reducible refine br_n (fun hb => ?_) (fun hb => ?_) | refine br (fun hb => ?_) (fun hb => ?_)); all_goals (try (first | exact absurd (by with_reducible assumption) hb | exact absurd hb (by with_reducible assumption) | (exfalso; omega)))))
  all_goals refine ⟨?_, rfl⟩
  all_goals (try simp only [ew_eq, sw_eq, cut_to, cut_fr, truD, decide_eq_true_eq, decide_eq_false_iff_not, len_Lz] at *)
  all_goals (try (simp only [show ∀ l : List Nat, Lz (sT l) = l from fun _ => rfl] at *))
  all_goals simp_all [stB, sT_eq]
  all_goals omega
def optE : Except Nat (List Str) → D
  | .ok r => tolD r
  | .error _ => .none
theorem lsounds_s {k : Nat} {T : Tng} {b : Bool} (hT : T.ok b) {w : Str} (hw : (Lz w).length ≤ 1000) : callF G (k + 2) n__law_sounds [.dat T.d, .dat (.str w)] = .ok (.dat (optE (say T.rs T.en w))) [.dat T.d, .dat (.str w)] := by
  have hr := rs_ok hT
  have hrn := hr.n
  refine callS_eq ?_
  refine callM (F := i__law_sounds.fn) rfl rfl m__law_sounds (by repeat' first | exact frm_0 | apply frm_c | apply frm_s) ?_
  (show_term first | (refine wx_of (show idxD T.d (.int 2) = some (.tuple (T.en.map enP)) from rfl) ?_) | (refine dctG (en_nodup hT.ep) (by have := hT.el; omega) ?_))
  refine wc_inEn ?_
  unfold say
  cases hl : lkp T.en w with
  | some t =>
    (show_term first | refine wx_En hl ?_)
    exact ⟨rfl, rfl⟩
  | none =>
    (show_term fail)
    show Ww _ _ _ _ _ (thn _ _ (fin _ (fun s' os' => s' = Sv.dat (optE (sayF T.rs w)) ∧ os' = _) _))
    refine ww_inv (fun m env => ∃ (p : Nat) (fd : List (Nat × Nat)) (o5 o6 o7 : Option Sv), env = [some (.dat T.d), some (.dat (.str w)), some (.dct (T.en.map enD)), some (.dat (tolD (sndsOf T.rs fd))), some (.dat (.int p)), o5, o6, o7] ∧ m = (Lz w).length - p ∧ fd.length ≤ p ∧ fd.length ≤ (Lz w).length ∧ (sndsOf T.rs fd).length ≤ 100 * fd.length ∧ ∃ n, (Lz w).length < n + p ∧ appE fd (byR T.rs w n p) = byR T.rs w ((Lz w).length + 1) 0) ?_ _ (Lz w).length (by show _ < 100000; omega) ⟨0, [], _, _, _, rfl, by omega, by simp, by simp, by simp [sndsOf], (Lz w).length + 1, by omega, by cases byR T.rs w ((Lz w).length + 1) 0 <;> rfl⟩
    rintro m env ⟨p, fd, o5, o6, o7, rfl, rfl, hf, hfl, hsn, n, hn, he⟩
    (show_term fail)
    rw [len_Lz]
    by_cases hlt : p < (Lz w).length
    · obtain ⟨n, rfl⟩ : ∃ n', n = n' + 1 := ⟨n - 1, by omega⟩
      have hfz := fi_z (fun x => stB x w p) T.rs 0
      rw [byR, if_pos hlt] at he
      (show_term first | ((first | refine br_t rfl ?_ | refine br_f rfl ?_ | with_reducible refine br_d (fun hb => ?_) (fun hb => ?_) | with_reducible refine br_nd (fun hb => ?_) (fun hb => ?_) | with_reducible refine br_dn (fun hb => ?_) (fun hb => ?_) | with_reducible refine br_b (fun hb => ?_) (fun hb => ?_) | with_reducible refine br_n (fun hb => ?_) (fun hb => ?_) | refine br (fun hb => ?_) (fun hb => ?_)); all_goals (try (first | exact absurd (by with_reducible assumption) hb | exact absurd hb (by with_reducible assumption) | (exfalso; omega)))) | (refine wx_of (show idxD T.d (.int 1) = some (.tuple (T.rs.map Rul.d)) from rfl) ?_))
      rw [enu_zip]
      refine wcp_fil (as := T.rs.zipIdx) (f := fun y => PyData.tuple [.int (y.2 : Nat), y.1.d]) (fun y => stB y.1 w p) (fun y => .int (y.2 : Nat)) (by simp; omega) (fun y hy => wcb ?_) ?_
      · have hm := hr.m y.1 (List.fst_mem_of_mem_zipIdx hy)
        (show_term first | (refine call_ ?_; refine callS_ok (lstands_s hm) ?_) | (first | refine br_t rfl ?_ | refine br_f rfl ?_ | with_reducible refine br_d (fun hb => ?_) (fun hb => ?_) | with_reducible refine br_nd (fun hb => ?_) (fun hb => ?_) | with_reducible refine br_dn (fun hb => ?_) (fun hb => ?_) | with_reducible refine br_b (fun hb => ?_) (fun hb => ?_) | with_reducible refine br_n (fun hb => ?_) (fun hb => ?_) | refine br (fun hb => ?_) (fun hb => ?_)))
        · exact ⟨by rw [if_pos hb], rfl⟩
        · exact ⟨by rw [if_neg (by rw [hb]; simp)], rfl⟩
      rw [show (T.rs.zipIdx.filter fun y => stB y.1 w p).map (fun y => PyData.int (y.2 : Nat)) = ((T.rs.zipIdx.filter fun y => stB y.1 w p).map (·.2)).map nD by rw [List.map_map]; rfl, hfz]
      cases hi : T.rs.findIdx? (fun x => stB x w p) with
      | none =>
        rw [hi] at he
        (show_term first | refine wc_eqL0 ?_)
        refine ⟨?_, rfl⟩
        unfold sayF
        rw [← he]; rfl
      | some i =>
        rw [hi] at he
        have hil : i < T.rs.length := (List.findIdx?_eq_some_iff_getElem.1 hi).1
        dsimp only
        rw [Nat.zero_add]
        have hm := hr.m _ (List.getElem_mem hil)
        have ht := hr.t _ (List.getElem_mem hil)
        have hra : rAt T.rs i = T.rs[i] := by rw [rAt, List.getD_eq_getElem?_getD, List.getElem?_eq_getElem hil]; rfl
        have hsd : sndsOf T.rs (fd ++ [(p, i)]) = sndsOf T.rs fd ++ T.rs[i].t := by rw [sndsOf, List.flatMap_append]; simp [sndsOf, hra]
        (show_term first | refine wc_eqL0 ?_ | (refine wx_of (show idxD T.d (.int 1) = some (.tuple (T.rs.map Rul.d)) from rfl) ?_) | refine ix_hd ?_ | (refine wx_ ?_; first | refine wx_TN (by omega) ?_ | refine wx_LN (by omega) ?_) | refine wx_r1 ?_ | refine wx_r3 ?_ | refine wb_addTol (by omega) ?_)
        rw [len_Lz]
        refine ⟨(Lz w).length - (p + (Lz T.rs[i].m).length), by omega, p + (Lz T.rs[i].m).length, fd ++ [(p, i)], _, _, _, by rw [hsd]; simp; exact ⟨rfl, rfl, rfl⟩, rfl, by rw [List.length_append, List.length_singleton]; omega, by rw [List.length_append, List.length_singleton]; omega, by rw [hsd, List.length_append, List.length_append, List.length_singleton]; omega, n, by omega, ?_⟩
        dsimp only at he
        rw [hra] at he
        rw [← he]
        cases byR T.rs w n (p + (Lz T.rs[i].m).length) <;> simp [appE]
    · have e0 : byR T.rs w n p = .ok [] := by
        cases n with
        | zero => rfl
        | succ n => rw [byR, if_neg hlt]
      rw [e0] at he
      (show_term first | ((first | refine br_t rfl ?_ | refine br_f rfl ?_ | with_reducible refine br_d (fun hb => ?_) (fun hb => ?_) | with_reducible refine br_nd (fun hb => ?_) (fun hb => ?_) | with_reducible refine br_dn (fun hb => ?_) (fun hb => ?_) | with_reducible refine br_b (fun hb => ?_) (fun hb => ?_) | with_reducible refine br_n (fun hb => ?_) (fun hb => ?_) | refine br (fun hb => ?_) (fun hb => ?_)); all_goals (try (first | exact absurd (by with_reducible assumption) hb | exact absurd hb (by with_reducible assumption) | (exfalso; omega)))))
      refine ⟨?_, rfl⟩
      unfold sayF
      rw [← he]; simp [appE, optE, sndsOf]

theorem byR_row {rs : List Rul} {w : Str} : ∀ r : List (Nat × Nat), (∀ y ∈ r, y.2 < rs.length) → (∀ x ∈ rs, Rul.ok x) → (∀ z ∈ (r.flatMap fun y => (rAt rs y.2).t), z ∈ SN) ∧ (r.flatMap fun y => (rAt rs y.2).t).length ≤ 2 * r.length
  | [], _, _ => by simp
  | y :: r, h1, h2 => by
    have ih := byR_row (w := w) r (fun x hx => h1 x (by simp [hx])) h2
    have hy := h1 y (by simp)
    have hm : rAt rs y.2 ∈ rs := by
      unfold rAt
      rw [List.getD_eq_getElem?_getD, List.getElem?_eq_getElem hy]
      exact List.getElem_mem hy
    have hk := h2 _ hm
    rw [List.flatMap_cons]
    refine ⟨fun z hz => ?_, by have := hk.n; simp only [List.length_append, List.length_cons]; omega⟩
    rcases List.mem_append.1 hz with hz | hz
    · exact hk.t z hz
    · exact ih.1 z hz
theorem say_row {T : Tng} {b : Bool} (hT : T.ok b) {w : Str} {row : List Str} (h : say T.rs T.en w = .ok row) : (∀ z ∈ row, z ∈ SN) ∧ row.length ≤ 2 * (Lz w).length + 5 := by
  unfold say at h
  cases hl : lkp T.en w with
  | some t =>
    rw [hl] at h
    cases h
    have hm := hT.en _ (lkp_mem hl)
    have := hm.n1
    exact ⟨hm.t, by simp only at this; omega⟩
  | none =>
    rw [hl] at h
    unfold sayF at h
    cases hb : byR T.rs w ((Lz w).length + 1) 0 with
    | error e => rw [hb] at h; cases h
    | ok r =>
      rw [hb] at h
      cases h
      obtain ⟨h1, h2⟩ := byR_ok _ _ _ hb
      have := byR_row (w := w) r h2 hT.rs
      exact ⟨this.1, by omega⟩

abbrev Row := Int × List Str
def rowD (x : Row) : D := .tuple [.int x.1, tolD x.2]
def ltR (y a : Row) : Bool := PySem.W.dataLt (rowD y) (rowD a)
def minR : List Row → Option Row
  | [] => none
  | x :: r => some (r.foldl (fun a y => if ltR y a then y else a) x)
theorem fold_rows : ∀ (r : List Row) (x : Row), (r.map rowD).foldl (fun a y => if PySem.W.dataLt y a then y else a) (rowD x) = rowD (r.foldl (fun a y => if ltR y a then y else a) x)
  | [], _ => rfl
  | y :: r, x => by
    rw [List.map_cons, List.foldl_cons, List.foldl_cons]
    by_cases h : ltR y x = true
    · rw [if_pos h, if_pos (show PySem.W.dataLt (rowD y) (rowD x) = true from h)]; exact fold_rows r y
    · rw [if_neg h, if_neg (show ¬ PySem.W.dataLt (rowD y) (rowD x) = true from h)]; exact fold_rows r x
theorem alike_strs : ∀ a b : List Str, PySem.W.alikeAll (a.map .str) (b.map .str) = true
  | [], b => by simp [PySem.W.alikeAll]
  | _ :: _, [] => by simp [PySem.W.alikeAll]
  | x :: a, y :: b => by simp [PySem.W.alikeAll, PySem.W.alike, alike_strs a b]
theorem alike_row (x y : Row) : PySem.W.alike (rowD x) (rowD y) = true := by
  simp [rowD, tolD, PySem.W.alike, PySem.W.alikeAll, alike_strs]
theorem dep_row (x : Row) : (rowD x).depth ≤ 4 := by
  have h := dep_tol x.2
  simp only [rowD, PyData.depth, PyData.depthAll]; omega
theorem best_rows (rs : List Row) : bestOk (rs.map rowD) = true := by
  unfold bestOk
  rw [alikeB_map alike_row, decide_eq_true (show PyData.depthAll (rs.map rowD) ≤ 100 by have := depthAll_map (as := rs) dep_row; omega)]
  simp [isN, rowD]
theorem fold_mem : ∀ (r : List Row) (x : Row), r.foldl (fun a y => if ltR y a then y else a) x ∈ x :: r
  | [], x => by simp
  | y :: r, x => by
    rw [List.foldl_cons]
    by_cases h : ltR y x = true
    · rw [if_pos h]; exact List.mem_cons_of_mem _ (fold_mem r y)
    · rw [if_neg h]
      rcases List.mem_cons.1 (fold_mem r x) with h | h
      · rw [h]; exact List.mem_cons_self
      · exact List.mem_cons_of_mem _ (List.mem_cons_of_mem _ h)
theorem minR_mem {rs : List Row} {x : Row} (h : minR rs = some x) : x ∈ rs := by
  cases rs with
  | nil => cases h
  | cons y r => cases h; exact fold_mem r y
theorem minR_some {rs : List Row} (h : rs ≠ []) : ∃ x, minR rs = some x := by
  cases rs with
  | nil => exact absurd rfl h
  | cons y r => exact ⟨_, rfl⟩
/-! the order of rows: price, then names -/
def ltN : List Str → List Str → Bool
  | _, [] => false
  | [], _ :: _ => true
  | x :: a, y :: b => if x = y then ltN a b else decide (x.cps.toList < y.cps.toList)
theorem dataLt_selfW (d : D) : PySem.W.dataLt d d = false := PyProof.Rows.lex_irrefl _
theorem rowLt_strs : ∀ a b : List Str, PySem.W.rowLt (a.map .str) (b.map .str) = ltN a b
  | [], [] => dataLt_selfW (.list [])
  | _ :: _, [] => by
    unfold ltN
    exact (PySem.W.dataLt_list _ []).symm.trans (by rfl)
  | [], _ :: _ => by
    unfold ltN
    exact (PySem.W.dataLt_list [] _).symm.trans (by rfl)
  | x :: a, y :: b => by
    unfold PySem.W.rowLt
    rw [List.map_cons, List.map_cons, PySem.W.dataLt_cons (by simp [PySem.W.alike])]
    simp only [PyData.eqv, ltN, PySem.W.dataLt_str, beq_iff_eq]
    by_cases h : x = y
    · rw [if_pos h, if_pos h]; exact rowLt_strs a b
    · rw [if_neg h, if_neg h]
theorem ltR_eq (x y : Row) : ltR x y = if x.1 = y.1 then ltN x.2 y.2 else decide (x.1 < y.1) := by
  unfold ltR rowD
  rw [PySem.W.dataLt_pair (by simp [PySem.W.alike]) (by simp [tolD, PySem.W.alike, alike_strs])]
  simp only [PyData.eqv, beq_iff_eq, PySem.W.dataLt_int]
  by_cases h : x.1 = y.1
  · rw [if_pos h, if_pos h]
    have e2 : PySem.W.dataLt (tolD x.2) (tolD y.2) = ltN x.2 y.2 := (PySem.W.dataLt_tuple _ _).trans (rowLt_strs _ _)
    by_cases h2 : PyData.eqv (tolD x.2) (tolD y.2) = true
    · rw [if_pos h2]
      have : x.2 = y.2 := by
        simp only [tolD, PyData.eqv, eqvAll_strs, decide_eq_true_eq] at h2
        exact h2
      rw [this] at e2 ⊢
      rw [← e2, dataLt_selfW]
    · rw [if_neg h2, e2]
  · rw [if_neg h, if_neg h]
theorem ltN_irr : ∀ a : List Str, ltN a a = false
  | [] => rfl
  | x :: a => by simp [ltN, ltN_irr a]
theorem ltS_tri {x y : Str} (h1 : ¬ x = y) (h2 : ¬ x.cps.toList < y.cps.toList) : y.cps.toList < x.cps.toList := by
  rcases List.le_iff_lt_or_eq.1 (List.not_lt.1 h2) with h | h
  · exact h
  · exact absurd (by cases x; cases y; simpa using h.symm) h1
theorem ltN_tri : ∀ {a b : List Str}, ltN a b = false → ltN b a = false → a = b
  | [], [], _, _ => rfl
  | [], _ :: _, h, _ => by simp [ltN] at h
  | _ :: _, [], _, h => by simp [ltN] at h
  | x :: a, y :: b, h1, h2 => by
    simp only [ltN] at h1 h2
    by_cases h : x = y
    · subst h
      simp only [if_true] at h1 h2
      rw [ltN_tri h1 h2]
    · rw [if_neg h, decide_eq_false_iff_not] at h1
      rw [if_neg (fun e => h e.symm), decide_eq_false_iff_not] at h2
      exact absurd (ltS_tri h h1) h2
theorem ltN_tr : ∀ {a b c : List Str}, ltN a b = true → ltN b c = true → ltN a c = true
  | _, [], _, h, _ => by simp [ltN] at h
  | _, _ :: _, [], _, h => by simp [ltN] at h
  | [], _ :: _, _ :: _, _, _ => rfl
  | x :: a, y :: b, z :: c, h1, h2 => by
    simp only [ltN] at h1 h2 ⊢
    by_cases h : x = y
    · subst h
      simp only [if_true] at h1
      by_cases h3 : x = z
      · subst h3
        simp only [if_true] at h2 ⊢
        exact ltN_tr h1 h2
      · rw [if_neg h3] at h2 ⊢; exact h2
    · rw [if_neg h, decide_eq_true_eq] at h1
      by_cases h3 : y = z
      · subst h3
        rw [if_neg h]; simpa using h1
      · rw [if_neg h3, decide_eq_true_eq] at h2
        have h4 := List.lt_trans h1 h2
        have h5 : ¬ x = z := fun e => by rw [e] at h4; exact absurd h4 (List.lt_irrefl _)
        rw [if_neg h5]; simpa using h4
/-- a row that none is less than -/
structure Least (rs : List Row) (x : Row) : Prop where
  mem : x ∈ rs
  le : ∀ y ∈ rs, ltR y x = false
theorem ltR_irr (x : Row) : ltR x x = false := by rw [ltR_eq, if_pos rfl, ltN_irr]
theorem ltR_tri {x y : Row} (h1 : ltR x y = false) (h2 : ltR y x = false) : x = y := by
  rw [ltR_eq] at h1 h2
  by_cases h : x.1 = y.1
  · rw [if_pos h] at h1
    rw [if_pos h.symm] at h2
    exact Prod.ext h (ltN_tri h1 h2)
  · rw [if_neg h, decide_eq_false_iff_not] at h1
    rw [if_neg (fun e => h e.symm), decide_eq_false_iff_not] at h2
    omega
theorem ltR_tr {x y z : Row} (h1 : ltR x y = true) (h2 : ltR y z = true) : ltR x z = true := by
  rw [ltR_eq] at *
  by_cases h : x.1 = y.1
  · rw [if_pos h] at h1
    by_cases h3 : y.1 = z.1
    · rw [if_pos h3] at h2
      rw [if_pos (h.trans h3)]; exact ltN_tr h1 h2
    · rw [if_neg h3] at h2
      rw [if_neg (by rw [h]; exact h3), h]; exact h2
  · rw [if_neg h, decide_eq_true_eq] at h1
    by_cases h3 : y.1 = z.1
    · rw [if_neg (by rw [← h3]; exact h), ← h3]; simpa using h1
    · rw [if_neg h3, decide_eq_true_eq] at h2
      rw [if_neg (by omega)]; simpa using by omega
theorem Least.uniq {rs : List Row} {x y : Row} (h1 : Least rs x) (h2 : Least rs y) : x = y := ltR_tri (h2.le x h1.mem) (h1.le y h2.mem)
theorem fold_le : ∀ (r : List Row) (x : Row), ∀ y ∈ x :: r, ltR y (r.foldl (fun a y => if ltR y a then y else a) x) = false
  | [], x, y, h => by simp at h; subst h; exact ltR_irr _
  | z :: r, x, y, h => by
    rw [List.foldl_cons]
    by_cases hz : ltR z x = true
    · rw [if_pos hz]
      have ih := fold_le r z
      rcases List.mem_cons.1 h with rfl | h
      · have h0 := ih z List.mem_cons_self
        rw [Bool.eq_false_iff]
        intro q
        rw [Bool.eq_false_iff] at h0
        exact h0 (ltR_tr hz q)
      · exact ih y h
    · rw [if_neg hz]
      have ih := fold_le r x
      rcases List.mem_cons.1 h with rfl | h
      · exact ih y List.mem_cons_self
      · rcases List.mem_cons.1 h with rfl | h
        · have h0 := ih x List.mem_cons_self
          rw [Bool.eq_false_iff] at h0 ⊢
          intro q
          by_cases e : ltR x y = true
          · exact h0 (ltR_tr e q)
          · have := ltR_tri (by simpa using hz) (by simpa using e)
            rw [this] at q
            exact h0 q
        · exact ih y (List.mem_cons_of_mem _ h)
theorem minR_least {rs : List Row} {x : Row} (h : minR rs = some x) : Least rs x := by
  refine ⟨minR_mem h, ?_⟩
  cases rs with
  | nil => cases h
  | cons z r => cases h; exact fold_le r z
theorem minR_of {rs : List Row} {x : Row} (h : Least rs x) : minR rs = some x := by
  obtain ⟨y, hy⟩ := minR_some (rs := rs) (List.ne_nil_of_mem h.mem)
  rw [hy, (minR_least hy).uniq h]
/-- more at the price, a name ahead: the order stays -/
theorem ltR_up (c : Int) (z : Str) (x y : Row) : ltR (c + x.1, z :: x.2) (c + y.1, z :: y.2) = ltR x y := by
  rw [ltR_eq, ltR_eq]
  by_cases h : x.1 = y.1
  · rw [if_pos h, if_pos (by simp [h])]; simp [ltN]
  · rw [if_neg h, if_neg (by simp; omega)]
    congr 1
    exact propext ⟨fun q => by simp at q; omega, fun q => by simp; omega⟩
theorem ltR_up2 (c : Int) (x y : Row) : ltR (c + x.1, x.2) (c + y.1, y.2) = ltR x y := by
  rw [ltR_eq, ltR_eq]
  by_cases h : x.1 = y.1
  · rw [if_pos h, if_pos (by simp [h])]
  · rw [if_neg h, if_neg (by simp; omega)]
    congr 1
    exact propext ⟨fun q => by simp at q; omega, fun q => by simp; omega⟩

/-! the price of one row for another, by all ways -/
def unl (f : Str → Bool) (x y : Str) : Int := if x = y then 0 else if f x = f y then 1 else 2
def min3 (a b c : Int) : Int := min (min a b) c
def chg (f : Str → Bool) (pr : Int) : List Str → List Str → Int
  | [], b => pr * b.length
  | x :: a, [] => pr * (x :: a).length
  | x :: a, y :: b => min3 (chg f pr a b + unl f x y) (chg f pr a (y :: b) + pr) (chg f pr (x :: a) b + pr)
termination_by a b => a.length + b.length
/-- a way and its price -/
inductive Al (f : Str → Bool) (pr : Int) : List Str → List Str → Int → Prop
  | nil : Al f pr [] [] 0
  | sub {x y : Str} {a b : List Str} {c : Int} : Al f pr a b c → Al f pr (x :: a) (y :: b) (c + unl f x y)
  | del {x : Str} {a b : List Str} {c : Int} : Al f pr a b c → Al f pr (x :: a) b (c + pr)
  | ins {y : Str} {a b : List Str} {c : Int} : Al f pr a b c → Al f pr a (y :: b) (c + pr)
section
variable {f : Str → Bool} {pr : Int}
theorem Al.cast {a b : List Str} {c d : Int} (h : Al f pr a b c) (e : c = d) : Al f pr a b d := e ▸ h
theorem al_inss : ∀ b : List Str, Al f pr [] b (pr * b.length)
  | [] => by simpa using Al.nil
  | y :: b => (Al.ins (y := y) (al_inss b)).cast (by rw [List.length_cons]; push_cast; rw [Int.mul_add, Int.mul_one])
theorem al_dels : ∀ a : List Str, Al f pr a [] (pr * a.length)
  | [] => by simpa using Al.nil
  | y :: b => (Al.del (x := y) (al_dels b)).cast (by rw [List.length_cons]; push_cast; rw [Int.mul_add, Int.mul_one])
theorem al_chg : ∀ (n : Nat) (a b : List Str), a.length + b.length ≤ n → Al f pr a b (chg f pr a b)
  | n, [], b, _ => by rw [chg]; exact al_inss b
  | n, x :: a, [], _ => by rw [chg]; exact al_dels _
  | 0, x :: a, y :: b, h => by simp at h
  | n + 1, x :: a, y :: b, h => by
    simp only [List.length_cons] at h
    have h1 := al_chg n a b (by omega)
    have h2 := al_chg n a (y :: b) (by simp; omega)
    have h3 := al_chg n (x :: a) b (by simp; omega)
    rw [chg, min3]
    rcases Int.le_total (chg f pr a b + unl f x y) (chg f pr a (y :: b) + pr) with e1 | e1
    · rw [Int.min_eq_left e1]
      rcases Int.le_total (chg f pr a b + unl f x y) (chg f pr (x :: a) b + pr) with e2 | e2
      · rw [Int.min_eq_left e2]; exact .sub h1
      · rw [Int.min_eq_right e2]; exact .ins h3
    · rw [Int.min_eq_right e1]
      rcases Int.le_total (chg f pr a (y :: b) + pr) (chg f pr (x :: a) b + pr) with e2 | e2
      · rw [Int.min_eq_left e2]; exact .del h2
      · rw [Int.min_eq_right e2]; exact .ins h3
theorem min3_le (a b c : Int) : min3 a b c ≤ a ∧ min3 a b c ≤ b ∧ min3 a b c ≤ c := by
  unfold min3; omega
theorem chg_le {a b : List Str} {c : Int} (h : Al f pr a b c) : chg f pr a b ≤ c := by
  induction h with
  | nil => rw [chg]; simp
  | @sub x y a b c _ ih =>
    rw [chg]
    have := (min3_le (chg f pr a b + unl f x y) (chg f pr a (y :: b) + pr) (chg f pr (x :: a) b + pr)).1
    omega
  | @del x a b c _ ih =>
    cases b with
    | nil =>
      have : chg f pr a [] = pr * a.length := by cases a <;> rw [chg] <;> rfl
      rw [chg, List.length_cons]
      push_cast
      rw [Int.mul_add, Int.mul_one]; omega
    | cons y b =>
      rw [chg]
      have := (min3_le (chg f pr a b + unl f x y) (chg f pr a (y :: b) + pr) (chg f pr (x :: a) b + pr)).2.1
      omega
  | @ins y a b c _ ih =>
    cases a with
    | nil =>
      rw [chg] at ih ⊢
      rw [List.length_cons]
      push_cast
      rw [Int.mul_add, Int.mul_one]; omega
    | cons x a =>
      rw [chg]
      have := (min3_le (chg f pr a b + unl f x y) (chg f pr a (y :: b) + pr) (chg f pr (x :: a) b + pr)).2.2
      omega
theorem Al.app {a b a' b' : List Str} {c c' : Int} (h : Al f pr a b c) (h' : Al f pr a' b' c') : Al f pr (a ++ a') (b ++ b') (c + c') := by
  induction h with
  | nil => exact h'.cast (by omega)
  | sub _ ih => exact (Al.sub ih).cast (by omega)
  | del _ ih => exact (Al.del ih).cast (by omega)
  | ins _ ih => exact (Al.ins ih).cast (by omega)
/-- a way for two rows side by side falls in two -/
theorem Al.split {A b : List Str} {c : Int} (h : Al f pr A b c) : ∀ {a a' : List Str}, A = a ++ a' → ∃ b1 b2 c1 c2, b = b1 ++ b2 ∧ c = c1 + c2 ∧ Al f pr a b1 c1 ∧ Al f pr a' b2 c2 := by
  induction h with
  | nil =>
    intro a a' e
    obtain ⟨rfl, rfl⟩ := List.append_eq_nil_iff.1 e.symm
    exact ⟨[], [], 0, 0, rfl, rfl, .nil, .nil⟩
  | @sub x y A b c h ih =>
    intro a a' e
    cases a with
    | nil =>
      cases a' with
      | nil => cases e
      | cons z a' => 
        simp at e
        obtain ⟨rfl, rfl⟩ := e
        exact ⟨[], y :: b, 0, c + unl f x y, rfl, by omega, .nil, .sub h⟩
    | cons z a =>
      simp at e
      obtain ⟨rfl, e⟩ := e
      obtain ⟨b1, b2, c1, c2, rfl, rfl, h1, h2⟩ := ih e
      exact ⟨y :: b1, b2, c1 + unl f x y, c2, rfl, by omega, .sub h1, h2⟩
  | @del x A b c h ih =>
    intro a a' e
    cases a with
    | nil =>
      cases a' with
      | nil => cases e
      | cons z a' =>
        simp at e
        obtain ⟨rfl, rfl⟩ := e
        exact ⟨[], b, 0, c + pr, rfl, by omega, .nil, .del h⟩
    | cons z a =>
      simp at e
      obtain ⟨rfl, e⟩ := e
      obtain ⟨b1, b2, c1, c2, rfl, rfl, h1, h2⟩ := ih e
      exact ⟨b1, b2, c1 + pr, c2, rfl, by omega, .del h1, h2⟩
  | @ins y A b c h ih =>
    intro a a' e
    obtain ⟨b1, b2, c1, c2, rfl, rfl, h1, h2⟩ := ih e
    exact ⟨y :: b1, b2, c1 + pr, c2, rfl, by omega, .ins h1, h2⟩
end

/-! ways through a row of sounds -/
section
variable {f : Str → Bool} {pr : Int}
theorem Al.ge {a b : List Str} {c : Int} (hp : 0 ≤ pr) (h : Al f pr a b c) : pr * ((a.length : Int) - b.length) ≤ c := by
  induction h with
  | nil => simp
  | @sub x y a b c _ ih =>
    have h2 : 0 ≤ unl f x y := by unfold unl; split; omega; split <;> omega
    simp only [List.length_cons]
    push_cast
    rw [show (a.length : Int) + 1 - ((b.length : Int) + 1) = (a.length : Int) - b.length by omega]
    omega
  | @del x a b c _ ih =>
    simp only [List.length_cons]
    push_cast
    rw [show (a.length : Int) + 1 - (b.length : Int) = ((a.length : Int) - b.length) + 1 by omega, Int.mul_add, Int.mul_one]
    omega
  | @ins y a b c _ ih =>
    simp only [List.length_cons]
    push_cast
    rw [show (a.length : Int) - ((b.length : Int) + 1) = ((a.length : Int) - b.length) - 1 by omega, Int.mul_sub, Int.mul_one]
    omega
/-- the words of a seq of entries, their sounds -/
abbrev Lx := List (Str × List Str)
def wdsL (ws : Lx) : List Str := ws.map (·.1)
def sdsL (ws : Lx) : List Str := ws.flatMap (·.2)
inductive Wy (f : Str → Bool) (pr : Int) (L : Lx) : List Str → Row → Prop
  | nil : Wy f pr L [] (0, [])
  | skip {y : Str} {r : List Str} {x : Row} : Wy f pr L r x → Wy f pr L (y :: r) (x.1 + pr, x.2)
  | word {e : Str × List Str} {b r : List Str} {x : Row} : e ∈ L → b ≠ [] → Wy f pr L r x → Wy f pr L (b ++ r) (chg f pr e.2 b + x.1, e.1 :: x.2)
variable {L : Lx}
theorem wy_skips : ∀ r : List Str, ∃ x, Wy f pr L r x ∧ x.1 = pr * r.length ∧ x.2 = []
  | [] => ⟨_, .nil, by simp, rfl⟩
  | y :: r => by
    obtain ⟨x, h1, h2, h3⟩ := wy_skips r
    exact ⟨_, .skip h1, by rw [List.length_cons, h2]; push_cast; rw [Int.mul_add, Int.mul_one], h3⟩
theorem wy_seq {r : List Str} {x : Row} (h : Wy f pr L r x) : ∃ ws : Lx, (∀ e ∈ ws, e ∈ L) ∧ wdsL ws = x.2 ∧ Al f pr (sdsL ws) r x.1 := by
  induction h with
  | nil => exact ⟨[], by simp, rfl, .nil⟩
  | skip _ ih =>
    obtain ⟨ws, h1, h2, h3⟩ := ih
    exact ⟨ws, h1, h2, .ins h3⟩
  | @word e b r x he hb _ ih =>
    obtain ⟨ws, h1, h2, h3⟩ := ih
    refine ⟨e :: ws, fun d hd => ?_, by simp only [wdsL, List.map_cons] at h2 ⊢; rw [h2], ?_⟩
    · rcases List.mem_cons.1 hd with rfl | hd
      · exact he
      · exact h1 d hd
    · simp only [sdsL, List.flatMap_cons]
      exact (al_chg _ _ _ (Nat.le_refl _)).app h3
theorem seq_wy (hp : 0 < pr) (hL : ∀ e ∈ L, e.2 ≠ []) : ∀ (ws : Lx) (r : List Str) (c : Int), (∀ e ∈ ws, e ∈ L) → Al f pr (sdsL ws) r c → ∃ x, Wy f pr L r x ∧ (x.1 < c ∨ (x.1 ≤ c ∧ x.2 = wdsL ws))
  | [], r, c, _, h => by
    obtain ⟨x, h1, h2, h3⟩ := wy_skips (f := f) (pr := pr) (L := L) r
    have h4 := chg_le h
    rw [show sdsL [] = [] from rfl, chg] at h4
    exact ⟨x, h1, .inr ⟨by omega, h3⟩⟩
  | e :: ws, r, c, hw, h => by
    obtain ⟨b1, b2, c1, c2, rfl, rfl, h1, h2⟩ := h.split (a := e.2) (a' := sdsL ws) (by simp [sdsL])
    obtain ⟨x, h3, h4⟩ := seq_wy hp hL ws b2 c2 (fun d hd => hw d (by simp [hd])) h2
    by_cases hb : b1 = []
    · subst hb
      have h5 := h1.ge (by omega)
      have h6 := List.length_pos_iff.2 (hL e (hw e (by simp)))
      have h7 : pr * 1 ≤ pr * ((e.2.length : Int) - ([] : List Str).length) := Int.mul_le_mul_of_nonneg_left (by simp; omega) (by omega)
      exact ⟨x, by simpa using h3, .inl (by rcases h4 with h4 | h4 <;> omega)⟩
    · have h5 := chg_le h1
      refine ⟨_, .word (hw e (by simp)) hb h3, ?_⟩
      rcases h4 with h4 | ⟨h4, h8⟩
      · exact .inl (by show chg f pr e.2 b1 + x.1 < _; omega)
      · exact .inr ⟨by show chg f pr e.2 b1 + x.1 ≤ _; omega, by show e.1 :: x.2 = _; rw [h8]; rfl⟩
/-- the least way is the least of all rows of words -/
structure LeastP (P : Row → Prop) (x : Row) : Prop where
  mem : P x
  le : ∀ y, P y → ltR y x = false
def Cand (f : Str → Bool) (pr : Int) (L : Lx) (r : List Str) (n : Nat) (y : Row) : Prop := ∃ ws : Lx, (∀ e ∈ ws, e ∈ L) ∧ (sdsL ws).length ≤ n ∧ y = (chg f pr (sdsL ws) r, wdsL ws)
theorem ltR_false {x y : Row} : ltR y x = false ↔ x.1 ≤ y.1 ∧ (x.1 = y.1 → ltN y.2 x.2 = false) := by
  rw [ltR_eq]
  by_cases h : y.1 = x.1
  · rw [if_pos h]
    exact ⟨fun h2 => ⟨by omega, fun _ => h2⟩, fun h2 => h2.2 h.symm⟩
  · rw [if_neg h, decide_eq_false_iff_not]
    exact ⟨fun h2 => ⟨by omega, fun e => absurd e.symm h⟩, fun h2 => by omega⟩
theorem least_same (hp : 0 < pr) (hL : ∀ e ∈ L, e.2 ≠ []) {r : List Str} {x : Row} (h : LeastP (Wy f pr L r) x) : LeastP (Cand f pr L r (2 * r.length)) x := by
  have key : ∀ ws : Lx, (∀ e ∈ ws, e ∈ L) → ltR (chg f pr (sdsL ws) r, wdsL ws) x = false := fun ws hw => by
    obtain ⟨z, h1, h2⟩ := seq_wy hp hL ws r _ hw (al_chg (f := f) (pr := pr) _ _ _ (Nat.le_refl _))
    have h3 := ltR_false.1 (h.le z h1)
    refine ltR_false.2 ?_
    rcases h2 with h2 | ⟨h2, h4⟩
    · exact ⟨by show x.1 ≤ chg f pr (sdsL ws) r; omega, fun e => by
        have e : x.1 = chg f pr (sdsL ws) r := e
        omega⟩
    · refine ⟨by show x.1 ≤ chg f pr (sdsL ws) r; omega, fun e => ?_⟩
      have e : x.1 = chg f pr (sdsL ws) r := e
      have := h3.2 (by omega)
      rw [h4] at this
      exact this
  refine ⟨?_, fun y ⟨ws, h1, _, h3⟩ => h3 ▸ key ws h1⟩
  obtain ⟨ws, h1, h2, h3⟩ := wy_seq h.mem
  have h4 := chg_le h3
  have h5 := (ltR_false.1 (key ws h1)).1
  have h6 : x.1 = chg f pr (sdsL ws) r := by
    have h5 : x.1 ≤ chg f pr (sdsL ws) r := h5
    omega
  refine ⟨ws, h1, ?_, by rw [h2, ← h6]⟩
  obtain ⟨z, h7, h8, _⟩ := wy_skips (f := f) (pr := pr) (L := L) r
  have h9 := (ltR_false.1 (h.le z h7)).1
  have h10 := h3.ge (by omega)
  have h11 : pr * ((sdsL ws).length - r.length : Int) ≤ pr * r.length := by omega
  have := Int.le_of_mul_le_mul_left h11 hp
  omega
end
section
variable {f : Str → Bool} {pr : Int}
/-- the last step of a way -/
theorem Al.last {a b : List Str} {c : Int} (h : Al f pr a b c) : (a = [] ∧ b = [] ∧ c = 0) ∨ (∃ a' x b' y c', a = a' ++ [x] ∧ b = b' ++ [y] ∧ c = c' + unl f x y ∧ Al f pr a' b' c') ∨ (∃ a' x c', a = a' ++ [x] ∧ c = c' + pr ∧ Al f pr a' b c') ∨ (∃ b' y c', b = b' ++ [y] ∧ c = c' + pr ∧ Al f pr a b' c') := by
  induction h with
  | nil => exact .inl ⟨rfl, rfl, rfl⟩
  | @sub x y a b c h ih =>
    rcases ih with ⟨rfl, rfl, rfl⟩ | ⟨a', x', b', y', c', rfl, rfl, rfl, h'⟩ | ⟨a', x', c', rfl, rfl, h'⟩ | ⟨b', y', c', rfl, rfl, h'⟩
    · exact .inr (.inl ⟨[], x, [], y, 0, rfl, rfl, rfl, .nil⟩)
    · exact .inr (.inl ⟨x :: a', x', y :: b', y', c' + unl f x y, rfl, rfl, by omega, .sub h'⟩)
    · exact .inr (.inr (.inl ⟨x :: a', x', c' + unl f x y, rfl, by omega, .sub h'⟩))
    · exact .inr (.inr (.inr ⟨y :: b', y', c' + unl f x y, rfl, by omega, .sub h'⟩))
  | @del x a b c h ih =>
    rcases ih with ⟨rfl, rfl, rfl⟩ | ⟨a', x', b', y', c', rfl, rfl, rfl, h'⟩ | ⟨a', x', c', rfl, rfl, h'⟩ | ⟨b', y', c', rfl, rfl, h'⟩
    · exact .inr (.inr (.inl ⟨[], x, 0, rfl, rfl, .nil⟩))
    · exact .inr (.inl ⟨x :: a', x', b', y', c' + pr, rfl, rfl, by omega, .del h'⟩)
    · exact .inr (.inr (.inl ⟨x :: a', x', c' + pr, rfl, by omega, .del h'⟩))
    · exact .inr (.inr (.inr ⟨b', y', c' + pr, rfl, by omega, .del h'⟩))
  | @ins y a b c h ih =>
    rcases ih with ⟨rfl, rfl, rfl⟩ | ⟨a', x', b', y', c', rfl, rfl, rfl, h'⟩ | ⟨a', x', c', rfl, rfl, h'⟩ | ⟨b', y', c', rfl, rfl, h'⟩
    · exact .inr (.inr (.inr ⟨[], y, 0, rfl, rfl, .nil⟩))
    · exact .inr (.inl ⟨a', x', y :: b', y', c' + pr, rfl, rfl, by omega, .ins h'⟩)
    · exact .inr (.inr (.inl ⟨a', x', c' + pr, rfl, by omega, .ins h'⟩))
    · exact .inr (.inr (.inr ⟨y :: b', y', c' + pr, rfl, by omega, .ins h'⟩))
theorem Al.snoc_sub {a b : List Str} {c : Int} (x y : Str) (h : Al f pr a b c) : Al f pr (a ++ [x]) (b ++ [y]) (c + unl f x y) := (h.app (Al.sub (x := x) (y := y) .nil)).cast (by omega)
theorem Al.snoc_del {a b : List Str} {c : Int} (x : Str) (h : Al f pr a b c) : Al f pr (a ++ [x]) b (c + pr) := by
  have := (h.app (Al.del (x := x) .nil)).cast (d := c + pr) (by omega)
  simpa using this
theorem Al.snoc_ins {a b : List Str} {c : Int} (y : Str) (h : Al f pr a b c) : Al f pr a (b ++ [y]) (c + pr) := by
  have := (h.app (Al.ins (y := y) .nil)).cast (d := c + pr) (by omega)
  simpa using this
theorem al_c (a b : List Str) : Al f pr a b (chg f pr a b) := al_chg _ _ _ (Nat.le_refl _)
theorem min3_ge {a b c d : Int} (h1 : d ≤ a) (h2 : d ≤ b) (h3 : d ≤ c) : d ≤ min3 a b c := by unfold min3; omega
theorem chg_snoc (s r : List Str) (x y : Str) : chg f pr (s ++ [x]) (r ++ [y]) = min3 (chg f pr s r + unl f x y) (chg f pr s (r ++ [y]) + pr) (chg f pr (s ++ [x]) r + pr) := by
  have h1 := chg_le ((al_c (f := f) (pr := pr) s r).snoc_sub x y)
  have h2 := chg_le ((al_c (f := f) (pr := pr) s (r ++ [y])).snoc_del x)
  have h3 := chg_le ((al_c (f := f) (pr := pr) (s ++ [x]) r).snoc_ins y)
  have h4 := min3_ge h1 h2 h3
  have h5 := min3_le (chg f pr s r + unl f x y) (chg f pr s (r ++ [y]) + pr) (chg f pr (s ++ [x]) r + pr)
  rcases (al_c (f := f) (pr := pr) (s ++ [x]) (r ++ [y])).last with ⟨e, _, _⟩ | ⟨a', x', b', y', c', e1, e2, e3, h'⟩ | ⟨a', x', c', e1, e3, h'⟩ | ⟨b', y', c', e2, e3, h'⟩
  · simp at e
  · obtain ⟨rfl, e4⟩ := List.append_inj' e1 rfl
    obtain ⟨rfl, e5⟩ := List.append_inj' e2 rfl
    simp at e4 e5
    subst e4 e5
    have := chg_le h'
    omega
  · obtain ⟨rfl, e4⟩ := List.append_inj' e1 rfl
    simp at e4
    subst e4
    have := chg_le h'
    omega
  · obtain ⟨rfl, e5⟩ := List.append_inj' e2 rfl
    simp at e5
    subst e5
    have := chg_le h'
    omega
theorem chg_nilL (b : List Str) : chg f pr [] b = pr * b.length := by rw [chg]
theorem chg_nilR (a : List Str) : chg f pr a [] = pr * a.length := by cases a <;> rw [chg] <;> rfl
/-- one line of the table -/
def lineOf (f : Str → Bool) (pr : Int) (s r : List Str) : List Int := (List.range (r.length + 1)).map fun j => chg f pr s (r.take j)
end
/-! one more place -/
section
variable {f : Str → Bool} {pr : Int} {L : Lx}
theorem Wy.inv {r : List Str} {x : Row} (h : Wy f pr L r x) : (r = [] ∧ x = (0, [])) ∨ (∃ y t z, r = y :: t ∧ Wy f pr L t z ∧ x = (z.1 + pr, z.2)) ∨ (∃ e b t z, r = b ++ t ∧ e ∈ L ∧ b ≠ [] ∧ Wy f pr L t z ∧ x = (chg f pr e.2 b + z.1, e.1 :: z.2)) := by
  cases h with
  | nil => exact .inl ⟨rfl, rfl⟩
  | skip h => exact .inr (.inl ⟨_, _, _, rfl, h, rfl⟩)
  | word h1 h2 h3 => exact .inr (.inr ⟨_, _, _, _, rfl, h1, h2, h3, rfl⟩)
theorem least_nil : LeastP (Wy f pr L []) (0, []) := by
  refine ⟨.nil, fun y h => ?_⟩
  rcases h.inv with ⟨_, rfl⟩ | ⟨y, t, z, e, _⟩ | ⟨e, b, t, z, e2, _, hb, _⟩
  · exact ltR_irr _
  · cases e
  · obtain ⟨rfl, _⟩ := List.append_eq_nil_iff.1 e2.symm
    exact absurd rfl hb
/-- the rows at a place -/
def rowsAt (f : Str → Bool) (pr : Int) (L : Lx) (r : List Str) (X : Nat → Row) : List Row := ((X 1).1 + pr, (X 1).2) :: L.flatMap fun e => (List.range r.length).map fun i => (chg f pr e.2 (r.take (1 + i)) + (X (1 + i)).1, e.1 :: (X (1 + i)).2)
theorem ltR_shift (c : Int) (x y : Row) : ltR (x.1 + c, x.2) (y.1 + c, y.2) = ltR x y := by
  have := ltR_up2 c x y
  rw [Int.add_comm c, Int.add_comm c] at this
  exact this
theorem ltR_mid2 {x y m : Row} (h1 : ltR m x = false) (h2 : ltR y m = false) : ltR y x = false := by
  rw [Bool.eq_false_iff]
  intro q
  by_cases e : ltR m y = true
  · rw [ltR_tr e q] at h1; cases h1
  · have := ltR_tri h2 (by simpa using e)
    rw [this] at q
    rw [q] at h1; cases h1
theorem least_step {r : List Str} {X : Nat → Row} {x : Row} (hr : r ≠ []) (hX : ∀ j, 1 ≤ j → j ≤ r.length → LeastP (Wy f pr L (r.drop j)) (X j)) (hm : minR (rowsAt f pr L r X) = some x) : LeastP (Wy f pr L r) x := by
  have hl := minR_least hm
  obtain ⟨y0, r0, rfl⟩ := List.exists_cons_of_ne_nil hr
  constructor
  · rcases List.mem_cons.1 hl.mem with h | h
    · rw [h]
      exact .skip (hX 1 (by omega) (by simp)).mem
    · obtain ⟨e, he, h⟩ := List.mem_flatMap.1 h
      obtain ⟨i, hi, rfl⟩ := List.mem_map.1 h
      have hi := List.mem_range.1 hi
      have h2 := (hX (1 + i) (by omega) (by omega)).mem
      have h3 := Wy.word (f := f) (pr := pr) (L := L) he (b := (y0 :: r0).take (1 + i)) (by intro e; have := congrArg List.length e; simp at this) h2
      rw [List.take_append_drop] at h3
      exact h3
  · intro y hy
    have step : ∀ z, z ∈ rowsAt f pr L (y0 :: r0) X → ltR y z = false → ltR y x = false := fun z hz h => ltR_mid2 (hl.le z hz) h
    rcases hy.inv with ⟨e, _⟩ | ⟨y1, t, z, e, hz, rfl⟩ | ⟨e, b, t, z, e2, he, hb, hz, rfl⟩
    · cases e
    · cases e
      refine step _ List.mem_cons_self ?_
      rw [ltR_shift]
      exact (hX 1 (by omega) (by simp)).le z hz
    · have hbl := List.length_pos_iff.2 hb
      have hlen := congrArg List.length e2
      simp only [List.length_append] at hlen
      have e3 : (y0 :: r0).take (1 + (b.length - 1)) = b := by rw [e2, show 1 + (b.length - 1) = b.length by omega]; simp
      have e4 : (y0 :: r0).drop (1 + (b.length - 1)) = t := by rw [e2, show 1 + (b.length - 1) = b.length by omega]; simp
      have h5 := (hX (1 + (b.length - 1)) (by omega) (by omega)).le z (by rw [e4]; exact hz)
      refine step (chg f pr e.2 ((y0 :: r0).take (1 + (b.length - 1))) + (X (1 + (b.length - 1))).1, e.1 :: (X (1 + (b.length - 1))).2) ?_ ?_
      · exact List.mem_cons_of_mem _ (List.mem_flatMap.2 ⟨e, he, List.mem_map.2 ⟨b.length - 1, List.mem_range.2 (by omega), rfl⟩⟩)
      · rw [e3, ltR_up]
        exact h5
/-- all rows of words, by their number -/
def genL (L : Lx) (n : Nat) : Nat → List Lx
  | 0 => [[]]
  | k + 1 => (genL L n k).flatMap fun ws => (L.filter fun e => decide ((sdsL ws).length + e.2.length ≤ n)).map fun e => ws ++ [e]
theorem sdsL_snoc (ws : Lx) (e : Str × List Str) : sdsL (ws ++ [e]) = sdsL ws ++ e.2 := by simp [sdsL]
theorem genL_mem {n : Nat} : ∀ (k : Nat) (ws : Lx), ws ∈ genL L n k ↔ ws.length = k ∧ (∀ e ∈ ws, e ∈ L) ∧ (ws = [] ∨ (sdsL ws).length ≤ n)
  | 0, ws => by
    simp only [genL, List.mem_singleton]
    constructor
    · rintro rfl; simp
    · rintro ⟨h, _⟩; exact List.length_eq_zero_iff.1 h
  | k + 1, ws => by
    rw [genL, List.mem_flatMap]
    constructor
    · rintro ⟨us, hu, h⟩
      obtain ⟨e, he, rfl⟩ := List.mem_map.1 h
      obtain ⟨he1, he2⟩ := List.mem_filter.1 he
      obtain ⟨h1, h2, h3⟩ := (genL_mem k us).1 hu
      refine ⟨by simp [h1], fun d hd => ?_, .inr (by rw [sdsL_snoc, List.length_append]; simpa using he2)⟩
      rcases List.mem_append.1 hd with hd | hd
      · exact h2 d hd
      · simp at hd; subst hd; exact he1
    · rintro ⟨h1, h2, h3⟩
      rcases List.eq_nil_or_concat ws with rfl | ⟨us, e, rfl⟩
      · simp at h1
      · rw [List.concat_eq_append] at h1 h2 h3 ⊢
        have h4 : (sdsL us).length + e.2.length ≤ n := by
          rcases h3 with h3 | h3
          · simp at h3
          · rw [sdsL_snoc, List.length_append] at h3; exact h3
        refine ⟨us, (genL_mem k us).2 ⟨by simpa using h1, fun d hd => h2 d (by simp [hd]), .inr (by omega)⟩, List.mem_map.2 ⟨e, List.mem_filter.2 ⟨h2 e (by simp), by simpa using h4⟩, rfl⟩⟩
theorem genL_end {n k : Nat} (hL : ∀ e ∈ L, e.2 ≠ []) (h : n < k) : genL L n k = [] := by
  refine List.eq_nil_iff_forall_not_mem.2 fun ws hw => ?_
  obtain ⟨h1, h2, h3⟩ := (genL_mem k ws).1 hw
  have h4 : ∀ ws : Lx, (∀ e ∈ ws, e ∈ L) → ws.length ≤ (sdsL ws).length := fun ws => by
    induction ws with
    | nil => intro _; simp
    | cons e r ih =>
      intro h
      have := ih fun d hd => h d (by simp [hd])
      have h5 := List.length_pos_iff.2 (hL e (h e (by simp)))
      simp only [sdsL, List.flatMap_cons, List.length_append, List.length_cons] at this ⊢
      omega
  have := h4 ws h2
  rcases h3 with rfl | h3
  · simp at h1; omega
  · omega
/-- what the law has reckoned before the k-th turn -/
def keyR (f : Str → Bool) (pr : Int) (r : List Str) (ws : Lx) : Row := (chg f pr (sdsL ws) r, wdsL ws)
def doneL (f : Str → Bool) (pr : Int) (L : Lx) (r : List Str) (n : Nat) : Nat → List Row
  | 0 => []
  | k + 1 => doneL f pr L r n k ++ (genL L n k).map (keyR f pr r)
theorem doneL_mem {r : List Str} {n : Nat} (y : Row) : ∀ k, y ∈ doneL f pr L r n k ↔ ∃ j, j < k ∧ ∃ ws ∈ genL L n j, y = keyR f pr r ws
  | 0 => by simp [doneL]
  | k + 1 => by
    rw [doneL, List.mem_append, doneL_mem y k]
    constructor
    · rintro (⟨j, h1, h2⟩ | h)
      · exact ⟨j, by omega, h2⟩
      · obtain ⟨ws, h1, rfl⟩ := List.mem_map.1 h
        exact ⟨k, by omega, ws, h1, rfl⟩
    · rintro ⟨j, h1, ws, h2, rfl⟩
      by_cases e : j = k
      · subst e; exact .inr (List.mem_map_of_mem h2)
      · exact .inl ⟨j, by omega, ws, h2, rfl⟩
theorem done_cand {r : List Str} {n k : Nat} (hz : genL L n k = []) (y : Row) : y ∈ doneL f pr L r n k ↔ Cand f pr L r n y := by
  rw [doneL_mem]
  have hz2 : ∀ i, genL L n (k + i) = [] := fun i => by
    induction i with
    | zero => exact hz
    | succ i ih =>
      show (genL L n (k + i)).flatMap _ = []
      rw [ih]; rfl
  constructor
  · rintro ⟨j, _, ws, h, rfl⟩
    obtain ⟨_, h2, h3⟩ := (genL_mem j ws).1 h
    refine ⟨ws, h2, ?_, rfl⟩
    rcases h3 with h3 | h3
    · rw [h3]; exact Nat.zero_le _
    · exact h3
  · rintro ⟨ws, h1, h2, rfl⟩
    have hm : ws ∈ genL L n ws.length := (genL_mem _ ws).2 ⟨rfl, h1, .inr h2⟩
    refine ⟨ws.length, ?_, ws, hm, rfl⟩
    rcases Nat.lt_or_ge ws.length k with h | h
    · exact h
    · have := hz2 (ws.length - k)
      rw [show k + (ws.length - k) = ws.length by omega] at this
      rw [this] at hm
      simp at hm
/-- both ways tell the same row -/
theorem slip_same (hp : 0 < pr) (hL : ∀ e ∈ L, e.2 ≠ []) {r : List Str} {x z : Row} {k : Nat} (h : LeastP (Wy f pr L r) x) (hz : genL L (2 * r.length) k = []) (hm : minR (doneL f pr L r (2 * r.length) k) = some z) : x = z := by
  have h1 := least_same hp hL h
  have h2 := minR_least hm
  have h3 := h1.le z ((done_cand hz z).1 h2.mem)
  have h4 := h2.le x ((done_cand hz x).2 h1.mem)
  exact ltR_tri h4 h3
end

/-! the program's table of prices -/
theorem wc_eqBb {a b : Bool} {K : Bool → Prop} (k : K (a == b)) : Wc .Eq (some (.bool a)) (some (.bool b)) K := wc_of ⟨by cases a <;> cases b <;> decide⟩ k
theorem unlike_s {k : Nat} {x y : Str} : callF G (k + 1) n_unlikeness [.lst (FS.map .str), .dat (.str x), .dat (.str y)] = .ok (.dat (.int (unl isF x y))) [.lst (FS.map .str), .dat (.str x), .dat (.str y)] := by
  refine callS_eq ?_
  refine callM (F := i_unlikeness.fn) rfl rfl m_unlikeness (by repeat' first | exact frm_0 | apply frm_c | apply frm_s) ?_
  by_cases h : x = y
  · (show_term first | ((first | refine br_t rfl ?_ | refine br_f rfl ?_ | with_reducible refine br_d (fun hb => ?_) (fun hb => ?_) | with_reducible refine br_nd (fun hb => ?_) (fun hb => ?_) | with_reducible refine br_dn (fun hb => ?_) (fun hb => ?_) | with_reducible refine br_b (fun hb => ?_) (fun hb => ?_) | with_reducible refine br_n (fun hb => ?_) (fun hb => ?_) | refine br (fun hb => ?_) (fun hb => ?_)); all_goals (try (first | exact absurd (by with_reducible assumption) hb | exact absurd hb (by with_reducible assumption) | (exfalso; omega)))))
    refine ⟨?_, rfl⟩
    unfold unl
    rw [if_pos h]
  · have hu : unl isF x y = if decide (x ∈ FS) = decide (y ∈ FS) then 1 else 2 := by
      unfold unl
      rw [if_neg h]; rfl
    rw [hu]
    cases hx : decide (x ∈ FS) <;> cases hy : decide (y ∈ FS)
    all_goals
      (show_term first | refine wc_eqBb ?_ | (rw [hx]) | (rw [hy]) | ((first | refine br_t rfl ?_ | refine br_f rfl ?_ | with_reducible refine br_d (fun hb => ?_) (fun hb => ?_) | with_reducible refine br_nd (fun hb => ?_) (fun hb => ?_) | with_reducible refine br_dn (fun hb => ?_) (fun hb => ?_) | with_reducible refine br_b (fun hb => ?_) (fun hb => ?_) | with_reducible refine br_n (fun hb => ?_) (fun hb => ?_) | refine br (fun hb => ?_) (fun hb => ?_)); all_goals (try (first | exact absurd (by with_reducible assumption) hb | exact absurd hb (by with_reducible assumption) | (exfalso; omega)))))
      try exact ⟨rfl, rfl⟩
theorem line_nil (pr : Int) (r : List Str) : ((List.range (r.length + 1)).map fun j : Nat => PyData.int (pr * (j : Int))) = (lineOf isF pr [] r).map .int := by
  unfold lineOf
  rw [List.map_map]
  refine List.map_congr_left fun j hj => ?_
  have hj := List.mem_range.1 hj
  simp only [Function.comp, chg_nilL, List.length_take]
  rw [show min j r.length = j by omega]
theorem wx_line {pr : Int} {s r : List Str} {i : Int} {j : Nat} {K : D → Prop} (hi : i = j) (h : j ≤ r.length) (k : K (.int (chg isF pr s (r.take j)))) : Wx (some (.list ((lineOf isF pr s r).map .int))) (some (.int i)) K := by
  subst hi
  refine wx_L (by omega) (by simp [lineOf]; omega) ?_
  simp only [lineOf, List.getElem_map, List.getElem_range, Int.toNat_natCast]
  exact k
def newL (pr : Int) (s r : List Str) (n : Nat) : List D := (List.range n).map fun j => PyData.int (chg isF pr s (r.take j))
theorem wx_new {pr : Int} {s r : List Str} {i j n : Nat} {K : D → Prop} (hi : i = j) (h : j < n) (k : K (.int (chg isF pr s (r.take j)))) : Wx (some (.list (newL pr s r n))) (some (.int (i : Nat))) K := by
  subst hi
  refine wx_L (by omega) (by simp [newL]; omega) ?_
  simp only [newL, List.getElem_map, List.getElem_range, Int.toNat_natCast]
  exact k
theorem zix_at {r : List Str} {pre suf : List (Str × Nat)} {y : Str × Nat} (h : r.zipIdx = pre ++ y :: suf) : r[pre.length]? = some y.1 ∧ y.2 = pre.length ∧ r.length = pre.length + (suf.length + 1) := by
  have hl := congrArg List.length h
  simp at hl
  have h2 : r.zipIdx[pre.length]? = some y := by rw [h]; simp
  rw [List.getElem?_zipIdx] at h2
  obtain ⟨z, h3, h4⟩ := Option.map_eq_some_iff.1 h2
  refine ⟨by rw [h3, ← h4], by rw [← h4]; simp, hl⟩
theorem newL_line (pr : Int) (s r : List Str) : newL pr s r (1 + r.length) = (lineOf isF pr s r).map .int := by
  unfold newL lineOf
  rw [List.map_map, Nat.add_comm]; rfl
theorem newL_snoc {pr : Int} {s r : List Str} {x : Str} {pre : List (Str × Nat)} {y : Str × Nat} (hy : r[pre.length]? = some y.1) (hy2 : y.2 = pre.length) : newL pr (s ++ [x]) r (1 + (pre ++ [y]).length) = newL pr (s ++ [x]) r (1 + pre.length) ++ [.int (min3 (chg isF pr s (r.take pre.length) + unl isF x y.1) (chg isF pr s (r.take (pre.length + 1)) + pr) (chg isF pr (s ++ [x]) (r.take pre.length) + pr))] := by
  unfold newL
  rw [List.length_append, List.length_singleton, show 1 + (pre.length + 1) = (1 + pre.length) + 1 by omega, List.range_succ, List.map_append, List.map_singleton]
  have h1 : r.take (pre.length + 1) = r.take pre.length ++ [y.1] := by rw [List.take_add_one, hy]; rfl
  rw [show 1 + pre.length = pre.length + 1 by omega, h1, chg_snoc]
theorem min3_if (a b c : Int) : (if b < a then (if c < b then c else b) else if c < a then c else a) = min3 a b c := by
  unfold min3
  split <;> split <;> omega
theorem dist_c {k : Nat} {pr : Int} {s r : List Str} {Q : Sv → List Sv → Prop} {X : Nat → Option D → List Sv → Prop} (hs : s ≠ []) (hsl : s.length ≤ 1000) (hr : r.length ≤ 1000) (hp0 : 0 ≤ pr) (hp : pr ≤ 1000)
    (q : Q (.dat (.list ((lineOf isF pr s r).map .int))) [.lst (FS.map .str), .dat (tolD s), .dat (tolD r), .dat (.int pr)]) : CallS G (k + 2) n_distances [.lst (FS.map .str), .dat (tolD s), .dat (tolD r), .dat (.int pr)] Q X := by
  refine callM (F := i_distances.fn) rfl rfl m_distances (by repeat' first | exact frm_0 | apply frm_c | apply frm_s) ?_
  (show_term first | refine rg1 (by omega) (by omega) ?_)
  refine wcp_map (f := nD) (fun j => .int (pr * (j : Int))) (by simp; omega) (fun i hi => wcb ?_) ?_
  · (show_term fail)
    exact ⟨rfl, rfl⟩
  rw [show (List.range (((r.length : Nat) : Int) + 1).toNat) = List.range (r.length + 1) by rw [show (((r.length : Nat) : Int) + 1).toNat = r.length + 1 by omega], line_nil]
  (show_term fail)
  refine wf_inv (f := PyData.str) (fun pre env => ∃ (L : Sv) (o5 o6 o7 o8 o9 o10 : Option Sv), env = [some (.lst (FS.map .str)), some (.dat (tolD s)), some (.dat (tolD r)), some (.dat (.int pr)), some L, o5, o6, o7, o8, o9, o10] ∧ ((L = .lst ((lineOf isF pr pre r).map .int) ∧ pre = []) ∨ L = .dat (.list ((lineOf isF pr pre r).map .int)))) _ [] ⟨_, _, _, _, _, _, _, rfl, .inl ⟨rfl, rfl⟩⟩ ?_ ?_
  · rintro pre x suf env he ⟨L, o5, o6, o7, o8, o9, o10, rfl, hL⟩
    have h0 : chg isF pr pre (r.take 0) + pr = chg isF pr (pre ++ [x]) (r.take 0) := by
      simp only [List.take_zero, chg_nilR, List.length_append, List.length_singleton]
      push_cast
      rw [Int.mul_add, Int.mul_one]
    rcases hL with ⟨rfl, -⟩ | rfl
    · skip
      (show_term first | refine wx_line (j := 0) rfl (Nat.zero_le _) ?_)
      rw [h0, show [PyData.int (chg isF pr (pre ++ [x]) (r.take 0))] = newL pr (pre ++ [x]) r 1 from rfl, enu_zip]
      refine wf_inv (f := fun y : Str × Nat => PyData.tuple [.int (y.2 : Nat), .str y.1]) (fun pr2 env => ∃ (o5 o8 o9 o10 : Option Sv), env = [some (.lst (FS.map .str)), some (.dat (tolD s)), some (.dat (tolD r)), some (.dat (.int pr)), some (.lst ((lineOf isF pr pre r).map .int)), o5, some (.dat (.str x)), some (.lst (newL pr (pre ++ [x]) r (1 + pr2.length))), o8, o9, o10]) _ [] ⟨_, _, _, _, rfl⟩ ?_ ?_
      · rintro pr2 y sf env hpr ⟨o5, o8, o9, o10, rfl⟩
        rw [List.nil_append] at hpr
        obtain ⟨hyr, hy2, hpl⟩ := zix_at hpr
        rw [newL_snoc hyr hy2]
        (show_term first | (refine call_ ?_; refine callS_ok unlike_s ?_) | (refine wx_line (j := pr2.length + 1) (by omega) (by omega) ?_) | (refine wx_line (j := pr2.length) (by omega) (by omega) ?_) | (refine wx_new (j := pr2.length) hy2 (by omega) ?_) | (refine apS rfl (by simp [newL]; omega) ?_))
        rw [min3_if]
        exact ⟨_, _, _, _, rfl⟩
      · rintro env ⟨o5, o8, o9, o10, rfl⟩
        have hlen : ([] ++ r.zipIdx).length = r.length := by simp
        rw [hlen, newL_line]
        (show_term fail)
        exact ⟨_, _, _, _, _, _, _, rfl, .inr rfl⟩
    · skip
      (show_term first | refine wx_line (j := 0) rfl (Nat.zero_le _) ?_)
      rw [h0, show [PyData.int (chg isF pr (pre ++ [x]) (r.take 0))] = newL pr (pre ++ [x]) r 1 from rfl, enu_zip]
      refine wf_inv (f := fun y : Str × Nat => PyData.tuple [.int (y.2 : Nat), .str y.1]) (fun pr2 env => ∃ (o5 o8 o9 o10 : Option Sv), env = [some (.lst (FS.map .str)), some (.dat (tolD s)), some (.dat (tolD r)), some (.dat (.int pr)), some (.dat (.list ((lineOf isF pr pre r).map .int))), o5, some (.dat (.str x)), some (.lst (newL pr (pre ++ [x]) r (1 + pr2.length))), o8, o9, o10]) _ [] ⟨_, _, _, _, rfl⟩ ?_ ?_
      · rintro pr2 y sf env hpr ⟨o5, o8, o9, o10, rfl⟩
        rw [List.nil_append] at hpr
        obtain ⟨hyr, hy2, hpl⟩ := zix_at hpr
        rw [newL_snoc hyr hy2]
        (show_term first | (refine call_ ?_; refine callS_ok unlike_s ?_) | (refine wx_line (j := pr2.length + 1) (by omega) (by omega) ?_) | (refine wx_line (j := pr2.length) (by omega) (by omega) ?_) | (refine wx_new (j := pr2.length) hy2 (by omega) ?_) | (refine apS rfl (by simp [newL]; omega) ?_))
        rw [min3_if]
        exact ⟨_, _, _, _, rfl⟩
      · rintro env ⟨o5, o8, o9, o10, rfl⟩
        have hlen : ([] ++ r.zipIdx).length = r.length := by simp
        rw [hlen, newL_line]
        (show_term fail)
        exact ⟨_, _, _, _, _, _, _, rfl, .inr rfl⟩
  · rintro env ⟨L, o5, o6, o7, o8, o9, o10, rfl, hL⟩
    rw [List.nil_append] at hL
    rcases hL with ⟨_, h⟩ | rfl
    · exact absurd h hs
    · (show_term fail)
      exact q

def down (n : Nat) : List Nat := (List.range n).map fun k => n - 1 - k
theorem down_at {n a : Nat} {pre suf : List Nat} (h : down n = pre ++ a :: suf) : pre.length < n ∧ a = n - 1 - pre.length := by
  have h1 := congrArg List.length h
  simp [down] at h1
  have h2 : (down n)[pre.length]? = some a := by rw [h]; simp
  have h3 : pre.length < n := by omega
  simp only [down, List.getElem?_map, List.getElem?_range h3, Option.map_some, Option.some.injEq] at h2
  exact ⟨h3, h2.symm⟩
theorem rgN {n : Nat} {K : List D → Prop} (hn : n ≤ 100000) (k : K ((down n).map nD)) : ∃ xs, rngD [.int ((n : Int) - 1), .int (-1), .int (-1)] = some xs ∧ K xs := by
  refine rgD (by omega) (by omega) (by omega) (by omega) (by omega) ?_
  have e : ((List.range ((n : Int) - 1 - -1).toNat).map fun k : Nat => PyData.int ((n : Int) - 1 + (k : Int) * (-1))) = (down n).map nD := by
    rw [show ((n : Int) - 1 - -1).toNat = n by omega, down, List.map_map]
    apply List.map_congr_left
    intro k hk
    have := List.mem_range.1 hk
    simp only [Function.comp, nD]
    congr 1; omega
  rw [e]; exact k
theorem dVal_put {kvs : List (D × D)} {kd d : D} {q : L2.Key} (hk : keyOf kd = some q) (r : L2.Key) : dVal (dPut kvs kd q d) r = if r = q then some d else dVal kvs r := by
  unfold dPut
  split
  · rename_i ha
    unfold dVal
    rw [List.find?_map]
    have hc : ((fun kv : D × D => decide (keyOf kv.1 = some r)) ∘ fun kv => if keyOf kv.1 = some q then (kv.1, d) else kv) = fun kv => decide (keyOf kv.1 = some r) := by
      funext kv
      simp only [Function.comp]
      split <;> rfl
    rw [hc, Option.map_map]
    cases hf : kvs.find? (fun kv => decide (keyOf kv.1 = some r)) with
    | none =>
      rw [Option.map_none, Option.map_none]
      split
      · rename_i e
        subst e
        obtain ⟨kv, h1, h2⟩ := List.any_eq_true.1 ha
        have := List.find?_eq_none.1 hf kv h1
        exact absurd h2 this
      · rfl
    | some kv =>
      have hkv : keyOf kv.1 = some r := by simpa using List.find?_some hf
      rw [Option.map_some, Option.map_some]
      simp only [Function.comp, hkv]
      by_cases e : r = q
      · rw [if_pos e, if_pos (by rw [e])]
      · rw [if_neg e, if_neg fun h => e (Option.some.inj h)]
  · rename_i ha
    unfold dVal
    rw [List.find?_append]
    by_cases e : r = q
    · rw [if_pos e]
      subst e
      have hn : kvs.find? (fun kv => decide (keyOf kv.1 = some r)) = none := by
        rw [List.find?_eq_none]
        intro kv h1 h2
        exact ha (List.any_eq_true.2 ⟨kv, h1, h2⟩)
      rw [hn]
      simp [hk]
    · rw [if_neg e]
      have : [(kd, d)].find? (fun kv => decide (keyOf kv.1 = some r)) = none := by
        simp [hk]
        exact fun h => e h.symm
      rw [this]
      simp
theorem dPut_len (kvs : List (D × D)) (kd d : D) (q : L2.Key) : (dPut kvs kd q d).length ≤ kvs.length + 1 := by
  unfold dPut
  split <;> simp
theorem wx_dI {kvs : List (D × D)} {i : Int} {j : Nat} {x : Row} {K : D → Prop} (hi : i = j) (h : dVal kvs (.inl (j : Int)) = some (rowD x)) (k : K (rowD x)) : Wx (some (.dict kvs)) (some (.int i)) K := by
  subst hi
  refine wx_of ?_ k
  show ((some (.inl (j : Int)) : Option L2.Key).bind fun q => dVal kvs q) = _
  rw [Option.bind_some, h]
theorem wx_row0 {x : Row} {K : D → Prop} (k : K (.int x.1)) : Wx (some (rowD x)) (some (.int 0)) K := wx_of rfl k
theorem wx_row1 {x : Row} {K : D → Prop} (k : K (tolD x.2)) : Wx (some (rowD x)) (some (.int 1)) K := wx_of rfl k
theorem wb_consT {w : List Str} {z : Str} {K : Rv → Prop} (h : w.length ≤ 100000) (k : K (.dat (tolD (z :: w)))) : Wb .Add (some (.tuple [.str z])) (some (tolD w)) K := wb_addT (ys := w.map .str) (by simp; omega) k
theorem wbl_minRw {rs : List Row} {x : Row} {K : Rv → Prop} (h : minR rs = some x) (k : K (.dat (rowD x))) : Wbl .min (some [.list (rs.map rowD)]) K := by
  cases rs with
  | nil => cases h
  | cons y r =>
    have hb := best_rows (y :: r)
    cases h
    refine ⟨_, _, rfl, ?_, k⟩
    rw [List.map_cons] at hb ⊢
    show (if bestOk _ = true then some (Rv.dat (PySem.W.minD (rowD y) (r.map rowD))) else none) = _
    rw [hb, if_pos rfl, PySem.W.minD, fold_rows]
theorem said_ok {k : Nat} {T : Tng} {b : Bool} (hT : T.ok b) {w : Str} (hw : (Lz w).length ≤ 1000) {row : List Str} (h : say T.rs T.en w = .ok row) : callF G (k + 4) n_said [.dat T.d, .dat (.str w)] = .ok (.dat (tolD row)) [.dat T.d, .dat (.str w)] := by
  refine callS_eq ?_
  refine said_c (a := T.sd) (rs := T.rs) (en := T.en) (b := .tuple (T.on.map tolD)) (c := wordsD) (rs_ok hT) hw (fun r hr => ?_) (fun e he => ?_)
  · rw [h] at hr
    cases hr
    exact ⟨rfl, rfl⟩
  · rw [h] at he; cases he
theorem allsaid_s {k : Nat} {T : Tng} {b : Bool} (hT : T.ok b) {L : Lx} (hl : L.length ≤ 1000) (hL : ∀ e ∈ L, say T.rs T.en e.1 = .ok e.2 ∧ (Lz e.1).length ≤ 1000) : callF G (k + 5) n_all_said [.dat T.d, .dat (tolD (wdsL L))] = .ok (.lst (L.map enP)) [.dat T.d, .dat (tolD (wdsL L))] := by
  refine callS_eq ?_
  refine callM (F := i_all_said.fn) rfl rfl m_all_said (by repeat' first | exact frm_0 | apply frm_c | apply frm_s) ?_
  (show_term fail)
  rw [show (wdsL L).map PyData.str = L.map (fun e => PyData.str e.1) by simp [wdsL]]
  refine wcp_map (f := fun e : Str × List Str => PyData.str e.1) enP (by omega) (fun e he => wcb ?_) ?_
  · (show_term first | (refine call_ ?_; refine callS_ok (said_ok hT (hL e he).2 (hL e he).1) ?_))
    exact ⟨rfl, rfl⟩
  · (show_term fail)
    exact ⟨rfl, rfl⟩

theorem wy_len {f : Str → Bool} {pr : Int} {L : Lx} {r : List Str} {x : Row} (h : Wy f pr L r x) : x.2.length ≤ r.length := by
  induction h with
  | nil => simp
  | skip _ ih => simp only [List.length_cons] at ih ⊢; omega
  | @word e b r x he hb _ ih =>
    have := List.length_pos_iff.2 hb
    simp only [List.length_cons, List.length_append] at ih ⊢
    omega
theorem wsl_fr {w : List Str} {a : Nat} {K : Rv → Prop} (k : K (.dat (tolD (w.drop a)))) : Wsl (some (tolD w)) (some (a : Int)) none K := wsl_Tm (f := PyData.str) (by rw [cut_from]; exact k)
def gAt (pr : Int) (r : List Str) (X : Nat → Row) (e : Str × List Str) (i : Nat) : Row := (chg isF pr e.2 (r.take (1 + i)) + (X (1 + i)).1, e.1 :: (X (1 + i)).2)
theorem slip_c {k : Nat} {T : Tng} {b : Bool} {pr : Int} {L : Lx} {r : List Str} {Q : Sv → List Sv → Prop} {X0 : Nat → Option D → List Sv → Prop} (hT : T.ok b) (hl : L.length ≤ 100) (hL : ∀ e ∈ L, say T.rs T.en e.1 = .ok e.2 ∧ (Lz e.1).length ≤ 1000 ∧ e.2 ≠ [] ∧ e.2.length ≤ 1000) (hr : r.length ≤ 100) (hp0 : 0 ≤ pr) (hp : pr ≤ 1000)
    (q : ∀ x, LeastP (Wy isF pr L r) x → Q (.dat (rowD x)) [.dat T.d, .dat (tolD (wdsL L)), .dat (tolD r), .dat (.int pr)]) : CallS G (k + 6) n_slip [.dat T.d, .dat (tolD (wdsL L)), .dat (tolD r), .dat (.int pr)] Q X0 := by
  refine callM (F := i_slip.fn) rfl rfl m_slip (by repeat' first | exact frm_0 | apply frm_c | apply frm_s) ?_
  (show_term fail)
  refine callS_ok (allsaid_s (k := k) hT (by omega) fun e he => ⟨(hL e he).1, (hL e he).2.1⟩) ?_
  (show_term fail)
  refine callS_ok (full_s (k + 4) T) ?_
  (show_term first | refine wbl_lenTol ?_)
  refine ⟨_, [(.int (r.length : Nat), rowD (0, []))], rfl, by show 1 ≤ 15; omega, rfl, ?_⟩
  (show_term first | refine wbl_lenTol ?_)
  refine rgN (by omega) ?_
  refine wf_inv (f := nD) (fun pre env => ∃ (s4 : Sv) (kvs : List (D × D)) (X : Nat → Row) (o7 o8 o9 o10 o11 o12 o13 o14 : Option Sv), env = [some (.dat T.d), some (.dat (tolD (wdsL L))), some (.dat (tolD r)), some (.dat (.int pr)), some s4, some (.lst (FS.map .str)), some (.dct kvs), o7, o8, o9, o10, o11, o12, o13, o14] ∧ (s4 = .lst (L.map enP) ∨ s4 = .dat (.list (L.map enP))) ∧ (∀ j, r.length - pre.length ≤ j → j ≤ r.length → LeastP (Wy isF pr L (r.drop j)) (X j) ∧ dVal kvs (.inl (j : Int)) = some (rowD (X j))) ∧ kvs.length ≤ 1 + pre.length) _ [] ⟨_, _, fun _ => (0, []), _, _, _, _, _, _, _, _, rfl, .inl rfl, fun j h1 h2 => ?_, by simp⟩ ?_ ?_
  · have e : j = r.length := by simp at h1; omega
    subst e
    refine ⟨by rw [List.drop_length]; exact least_nil, by simp [dVal, keyOf]⟩
  · rintro pre a suf env he ⟨s4, kvs, X, o7, o8, o9, o10, o11, o12, o13, o14, rfl, h4, hX, hkl⟩
    obtain ⟨h1, h2⟩ := down_at (by simpa using he)
    have h3 : r.length - pre.length = a + 1 := by omega
    rw [h3] at hX
    have hX1 := hX (a + 1) (by omega) (by omega)
    have hda : (r.drop a).length = r.length - a := by simp
    obtain ⟨x, hm⟩ := minR_some (rs := rowsAt isF pr L (r.drop a) (fun j => X (a + j))) (by simp [rowsAt])
    have hlx : LeastP (Wy isF pr L (r.drop a)) x := least_step (X := fun j => X (a + j)) (fun e => by have := congrArg List.length e; simp at this; omega) (fun j hj1 hj2 => by
      rw [List.drop_drop]
      exact (hX (a + j) (by omega) (by omega)).1) hm
    have hfin : ∃ X' : Nat → Row, ∀ j, r.length - (pre ++ [a]).length ≤ j → j ≤ r.length → LeastP (Wy isF pr L (r.drop j)) (X' j) ∧ dVal (dPut kvs (.int (a : Int)) (.inl (a : Int)) (rowD x)) (.inl (j : Int)) = some (rowD (X' j)) := by
      refine ⟨fun j => if j = a then x else X j, fun j hj1 hj2 => ?_⟩
      simp only [List.length_append, List.length_singleton] at hj1
      rw [dVal_put rfl]
      by_cases e : j = a
      · subst e
        simp only [if_true]
        exact ⟨hlx, by trivial⟩
      · have e2 : ¬ ((Sum.inl (j : Int) : L2.Key) = Sum.inl (a : Int)) := fun q => e (by have := Sum.inl.inj q; omega)
        rw [if_neg e2]
        simp only [if_neg e]
        exact hX j (by omega) hj2
    obtain ⟨X', hX'⟩ := hfin
    have hpl := dPut_len kvs (.int (a : Int)) (rowD x) (.inl (a : Int))
    have hgl : ∀ e : Str × List Str, ((List.range (r.drop a).length).map (gAt pr (r.drop a) (fun j => X (a + j)) e)).length ≤ 100 := fun e => by simp; omega
    have hfl : ∀ pr2 : Lx, (pr2.flatMap fun e => (List.range (r.drop a).length).map (gAt pr (r.drop a) (fun j => X (a + j)) e)).length ≤ 100 * pr2.length := fun pr2 => by
      induction pr2 with
      | nil => simp
      | cons e t ih =>
        have := hgl e
        rw [List.flatMap_cons, List.length_append, List.length_cons]
        omega
    rcases h4 with rfl | rfl
    · (show_term first | (refine wx_dI (j := a + 1) (by omega) hX1.2 ?_) | refine wx_row0 ?_ | refine wx_row1 ?_)
      refine wf_inv (f := enP) (fun pr2 env => ∃ (o9 o10 o11 o12 o13 o14 : Option Sv), env = [some (.dat T.d), some (.dat (tolD (wdsL L))), some (.dat (tolD r)), some (.dat (.int pr)), some (.dat (.list (L.map enP))), some (.lst (FS.map .str)), some (.dct kvs), some (.dat (.int (a : Nat))), some (.lst ((((X (a + 1)).1 + pr, (X (a + 1)).2) :: pr2.flatMap fun e => (List.range (r.drop a).length).map (gAt pr (r.drop a) (fun j => X (a + j)) e)).map rowD)), o9, o10, o11, o12, o13, o14]) _ [] ⟨_, _, _, _, _, _, rfl⟩ ?_ ?_
      · rintro pr2 e sf env hpr ⟨o9, o10, o11, o12, o13, o14, rfl⟩
        rw [List.nil_append] at hpr
        have heL : e ∈ L := by rw [hpr]; simp
        have hpl2 := congrArg List.length hpr
        simp at hpl2
        obtain ⟨_, _, he3, he4⟩ := hL e heL
        have hfl2 := hfl pr2
        rw [show enP e = .tuple [.str e.1, tolD e.2] from rfl, List.flatMap_append, List.flatMap_singleton]
        (show_term first | refine wsl_fr ?_)
        refine dist_c he3 he4 (by omega) hp0 hp ?_
        (show_term first | refine wbl_lenTol ?_ | (refine rg2 (by omega) (by omega) (by omega) (by omega) (by omega) ?_))
        rw [show (((r.length : Nat) : Int) - (a : Nat) + 1 - 1).toNat = (r.drop a).length by omega]
        refine wf_inv (f := fun i : Nat => PyData.int (1 + (i : Int))) (fun pr3 env => ∃ (o12 o13 o14 : Option Sv), env = [some (.dat T.d), some (.dat (tolD (wdsL L))), some (.dat (tolD r)), some (.dat (.int pr)), some (.dat (.list (L.map enP))), some (.lst (FS.map .str)), some (.dct kvs), some (.dat (.int (a : Nat))), some (.lst ((((X (a + 1)).1 + pr, (X (a + 1)).2) :: ((pr2.flatMap fun e => (List.range (r.drop a).length).map (gAt pr (r.drop a) (fun j => X (a + j)) e)) ++ pr3.map (gAt pr (r.drop a) (fun j => X (a + j)) e))).map rowD)), some (.dat (.str e.1)), some (.dat (tolD e.2)), some (.dat (.list ((lineOf isF pr e.2 (r.drop a)).map .int))), o12, o13, o14]) _ [] ⟨_, _, _, by rw [List.map_nil, List.append_nil]⟩ ?_ ?_
        · rintro pr3 i sf3 env hpr3 ⟨o12, o13, o14, rfl⟩
          rw [List.nil_append] at hpr3
          have hi : i < (r.drop a).length := List.mem_range.1 (by rw [hpr3]; simp)
          have hl3 := congrArg List.length hpr3
          simp only [List.length_range, List.length_append, List.length_cons] at hl3
          have hXi := hX (a + (1 + i)) (by omega) (by omega)
          have hwl := wy_len hXi.1.mem
          have hwl2 : (X (a + (1 + i))).2.length ≤ 100 := by simp at hwl; omega
          have hsn : ((((X (a + 1)).1 + pr, (X (a + 1)).2) :: ((pr2.flatMap fun e => (List.range (r.drop a).length).map (gAt pr (r.drop a) (fun j => X (a + j)) e)) ++ (pr3 ++ [i]).map (gAt pr (r.drop a) (fun j => X (a + j)) e))).map rowD) = ((((X (a + 1)).1 + pr, (X (a + 1)).2) :: ((pr2.flatMap fun e => (List.range (r.drop a).length).map (gAt pr (r.drop a) (fun j => X (a + j)) e)) ++ pr3.map (gAt pr (r.drop a) (fun j => X (a + j)) e))).map rowD) ++ [rowD (gAt pr (r.drop a) (fun j => X (a + j)) e i)] := by
            simp only [List.map_append, List.map_cons, List.map_nil, List.cons_append, List.append_assoc]
          rw [hsn, show rowD (gAt pr (r.drop a) (fun j => X (a + j)) e i) = .tuple [.int (chg isF pr e.2 ((r.drop a).take (1 + i)) + (X (a + (1 + i))).1), tolD (e.1 :: (X (a + (1 + i))).2)] from rfl]
          (show_term first | (refine wx_dI (j := a + (1 + i)) (by omega) hXi.2 ?_) | (refine wx_line (j := 1 + i) (by omega) (by omega) ?_) | (refine wb_consT (by omega) ?_) | (refine apS rfl (by simp only [List.length_map, List.length_cons, List.length_append]; omega) ?_))
          exact ⟨_, _, _, rfl⟩
        · rintro env ⟨o12, o13, o14, rfl⟩
          (show_term fail)
          exact ⟨_, _, _, _, _, _, rfl⟩
      · rintro env ⟨o9, o10, o11, o12, o13, o14, rfl⟩
        (show_term first | refine wbl_minRw hm ?_ | (refine stD rfl rfl (by omega) ?_))
        exact ⟨_, _, X', _, _, _, _, _, _, _, _, rfl, .inr rfl, hX', by simp only [List.length_append, List.length_singleton]; omega⟩
    · (show_term first | (refine wx_dI (j := a + 1) (by omega) hX1.2 ?_) | refine wx_row0 ?_ | refine wx_row1 ?_)
      refine wf_inv (f := enP) (fun pr2 env => ∃ (o9 o10 o11 o12 o13 o14 : Option Sv), env = [some (.dat T.d), some (.dat (tolD (wdsL L))), some (.dat (tolD r)), some (.dat (.int pr)), some (.dat (.list (L.map enP))), some (.lst (FS.map .str)), some (.dct kvs), some (.dat (.int (a : Nat))), some (.lst ((((X (a + 1)).1 + pr, (X (a + 1)).2) :: pr2.flatMap fun e => (List.range (r.drop a).length).map (gAt pr (r.drop a) (fun j => X (a + j)) e)).map rowD)), o9, o10, o11, o12, o13, o14]) _ [] ⟨_, _, _, _, _, _, rfl⟩ ?_ ?_
      · rintro pr2 e sf env hpr ⟨o9, o10, o11, o12, o13, o14, rfl⟩
        rw [List.nil_append] at hpr
        have heL : e ∈ L := by rw [hpr]; simp
        have hpl2 := congrArg List.length hpr
        simp at hpl2
        obtain ⟨_, _, he3, he4⟩ := hL e heL
        have hfl2 := hfl pr2
        rw [show enP e = .tuple [.str e.1, tolD e.2] from rfl, List.flatMap_append, List.flatMap_singleton]
        (show_term first | refine wsl_fr ?_)
        refine dist_c he3 he4 (by omega) hp0 hp ?_
        (show_term first | refine wbl_lenTol ?_ | (refine rg2 (by omega) (by omega) (by omega) (by omega) (by omega) ?_))
        rw [show (((r.length : Nat) : Int) - (a : Nat) + 1 - 1).toNat = (r.drop a).length by omega]
        refine wf_inv (f := fun i : Nat => PyData.int (1 + (i : Int))) (fun pr3 env => ∃ (o12 o13 o14 : Option Sv), env = [some (.dat T.d), some (.dat (tolD (wdsL L))), some (.dat (tolD r)), some (.dat (.int pr)), some (.dat (.list (L.map enP))), some (.lst (FS.map .str)), some (.dct kvs), some (.dat (.int (a : Nat))), some (.lst ((((X (a + 1)).1 + pr, (X (a + 1)).2) :: ((pr2.flatMap fun e => (List.range (r.drop a).length).map (gAt pr (r.drop a) (fun j => X (a + j)) e)) ++ pr3.map (gAt pr (r.drop a) (fun j => X (a + j)) e))).map rowD)), some (.dat (.str e.1)), some (.dat (tolD e.2)), some (.dat (.list ((lineOf isF pr e.2 (r.drop a)).map .int))), o12, o13, o14]) _ [] ⟨_, _, _, by rw [List.map_nil, List.append_nil]⟩ ?_ ?_
        · rintro pr3 i sf3 env hpr3 ⟨o12, o13, o14, rfl⟩
          rw [List.nil_append] at hpr3
          have hi : i < (r.drop a).length := List.mem_range.1 (by rw [hpr3]; simp)
          have hl3 := congrArg List.length hpr3
          simp only [List.length_range, List.length_append, List.length_cons] at hl3
          have hXi := hX (a + (1 + i)) (by omega) (by omega)
          have hwl := wy_len hXi.1.mem
          have hwl2 : (X (a + (1 + i))).2.length ≤ 100 := by simp at hwl; omega
          have hsn : ((((X (a + 1)).1 + pr, (X (a + 1)).2) :: ((pr2.flatMap fun e => (List.range (r.drop a).length).map (gAt pr (r.drop a) (fun j => X (a + j)) e)) ++ (pr3 ++ [i]).map (gAt pr (r.drop a) (fun j => X (a + j)) e))).map rowD) = ((((X (a + 1)).1 + pr, (X (a + 1)).2) :: ((pr2.flatMap fun e => (List.range (r.drop a).length).map (gAt pr (r.drop a) (fun j => X (a + j)) e)) ++ pr3.map (gAt pr (r.drop a) (fun j => X (a + j)) e))).map rowD) ++ [rowD (gAt pr (r.drop a) (fun j => X (a + j)) e i)] := by
            simp only [List.map_append, List.map_cons, List.map_nil, List.cons_append, List.append_assoc]
          rw [hsn, show rowD (gAt pr (r.drop a) (fun j => X (a + j)) e i) = .tuple [.int (chg isF pr e.2 ((r.drop a).take (1 + i)) + (X (a + (1 + i))).1), tolD (e.1 :: (X (a + (1 + i))).2)] from rfl]
          (show_term first | (refine wx_dI (j := a + (1 + i)) (by omega) hXi.2 ?_) | (refine wx_line (j := 1 + i) (by omega) (by omega) ?_) | (refine wb_consT (by omega) ?_) | (refine apS rfl (by simp only [List.length_map, List.length_cons, List.length_append]; omega) ?_))
          exact ⟨_, _, _, rfl⟩
        · rintro env ⟨o12, o13, o14, rfl⟩
          (show_term fail)
          exact ⟨_, _, _, _, _, _, rfl⟩
      · rintro env ⟨o9, o10, o11, o12, o13, o14, rfl⟩
        (show_term first | refine wbl_minRw hm ?_ | (refine stD rfl rfl (by omega) ?_))
        exact ⟨_, _, X', _, _, _, _, _, _, _, _, rfl, .inr rfl, hX', by simp only [List.length_append, List.length_singleton]; omega⟩
  · rintro env ⟨s4, kvs, X, o7, o8, o9, o10, o11, o12, o13, o14, rfl, h4, hX, hkl⟩
    have hX0 := hX 0 (by simp [down]) (by omega)
    rw [List.drop_zero] at hX0
    rcases h4 with rfl | rfl
    · (show_term first | (refine wx_dI (j := 0) rfl hX0.2 ?_))
      exact q _ hX0.1
    · (show_term first | (refine wx_dI (j := 0) rfl hX0.2 ?_))
      exact q _ hX0.1

theorem wc_eqTol {a b : List Str} {K : Bool → Prop} (k : K (decide (a = b))) : Wc .Eq (some (tolD a)) (some (tolD b)) K := wc_of ⟨by
  have e : eqOk (tolD a) (tolD b) = true := eqOk_l (by have := dep_tol a; omega) rfl rfl
  show (if eqOk (tolD a) (tolD b) = true then some (PyData.eqv (tolD a) (tolD b)) else none) = _
  rw [if_pos e]
  simp only [tolD, PyData.eqv, eqvAll_strs]⟩ k
theorem wc_eqTol0 {a : List Str} {K : Bool → Prop} (k : K (decide (a = []))) : Wc .Eq (some (tolD a)) (some (.tuple [])) K := wc_eqTol (b := []) k
theorem wx_tol0 {x : Str} {a : List Str} {K : D → Prop} (k : K (.str x)) : Wx (some (tolD (x :: a))) (some (.int 0)) K := by
  refine wx_T (by omega) (by simp) ?_
  exact k
theorem wsl_1 {x : Str} {a : List Str} {K : Rv → Prop} (k : K (.dat (tolD a))) : Wsl (some (tolD (x :: a))) (some 1) none K := wsl_fr (a := 1) k
theorem wbl_minI3 {a b c : Int} {K : Rv → Prop} (k : K (.dat (.int (min3 a b c)))) : Wbl .min (some [.list [.int a, .int b, .int c]]) K := by
  refine ⟨_, _, rfl, ?_, k⟩
  show (if bestOk [.int a, .int b, .int c] = true then some (Rv.dat (PySem.W.minD (.int a) [.int b, .int c])) else none) = _
  have hb : bestOk [.int a, .int b, .int c] = true := rfl
  rw [hb, if_pos rfl]
  have := PySem.W.minD_ints a [b, c]
  simp only [List.map_cons, List.map_nil, List.foldl_cons, List.foldl_nil] at this
  rw [this]; rfl
theorem lchange_s {pr : Int} (hp0 : 0 ≤ pr) (hp : pr ≤ 1000) : ∀ (n k : Nat) (a b : List Str), a.length + b.length ≤ n → n ≤ 1000 → callF G (k + n + 1) n__law_change [.dat (tolD a), .dat (tolD b), .dat (.int pr)] = .ok (.dat (.int (chg isF pr a b))) [.dat (tolD a), .dat (tolD b), .dat (.int pr)]
  | n, k, [], b, h, hn => by
    refine callS_eq ?_
    refine callM (F := i__law_change.fn) rfl rfl m__law_change (by repeat' first | exact frm_0 | apply frm_c | apply frm_s) ?_
    (show_term first | refine wc_eqTol0 ?_ | refine wbl_lenTol ?_ | ((first | refine br_t rfl ?_ | refine br_f rfl ?_ | with_reducible refine br_d (fun hb => ?_) (fun hb => ?_) | with_reducible refine br_nd (fun hb => ?_) (fun hb => ?_) | with_reducible refine br_dn (fun hb => ?_) (fun hb => ?_) | with_reducible refine br_b (fun hb => ?_) (fun hb => ?_) | with_reducible refine br_n (fun hb => ?_) (fun hb => ?_) | refine br (fun hb => ?_) (fun hb => ?_)); all_goals (try (first | exact absurd (by with_reducible assumption) hb | exact absurd hb (by with_reducible assumption) | (exfalso; omega)))))
    · refine ⟨?_, rfl⟩
      rw [chg_nilL]
      simp
  | n, k, x :: a, [], h, hn => by
    refine callS_eq ?_
    refine callM (F := i__law_change.fn) rfl rfl m__law_change (by repeat' first | exact frm_0 | apply frm_c | apply frm_s) ?_
    (show_term first | refine wc_eqTol0 ?_ | refine wbl_lenTol ?_ | ((first | refine br_t rfl ?_ | refine br_f rfl ?_ | with_reducible refine br_d (fun hb => ?_) (fun hb => ?_) | with_reducible refine br_nd (fun hb => ?_) (fun hb => ?_) | with_reducible refine br_dn (fun hb => ?_) (fun hb => ?_) | with_reducible refine br_b (fun hb => ?_) (fun hb => ?_) | with_reducible refine br_n (fun hb => ?_) (fun hb => ?_) | refine br (fun hb => ?_) (fun hb => ?_)); all_goals (try (first | exact absurd (by with_reducible assumption) hb | exact absurd hb (by with_reducible assumption) | (exfalso; omega)))))
    all_goals refine ⟨?_, rfl⟩
    all_goals rw [chg_nilR]
    all_goals simp
  | 0, k, x :: a, y :: b, h, hn => by simp at h
  | n + 1, k, x :: a, y :: b, h, hn => by
    simp only [List.length_cons] at h
    have c1 := lchange_s hp0 hp n k a b (by omega) (by omega)
    have c2 := lchange_s hp0 hp n k a (y :: b) (by simp; omega) (by omega)
    have c3 := lchange_s hp0 hp n k (x :: a) b (by simp; omega) (by omega)
    have hne1 : ¬ (x :: a) = [] := by simp
    have hne2 : ¬ (y :: b) = [] := by simp
    have hu : unl isF x y = if x = y then 0 else if decide (x ∈ [sL [97], sL [101], sL [111]]) = decide (y ∈ [sL [97], sL [101], sL [111]]) then 1 else 2 := rfl
    have hc : chg isF pr (x :: a) (y :: b) = min3 (chg isF pr a b + unl isF x y) (chg isF pr a (y :: b) + pr) (chg isF pr (x :: a) b + pr) := by rw [chg]
    rw [hc]
    refine callS_eq ?_
    refine callM (F := i__law_change.fn) rfl rfl m__law_change (by repeat' first | exact frm_0 | apply frm_c | apply frm_s) ?_
    by_cases hxy : x = y
    · rw [if_pos hxy] at hu
      rw [hu]
      (show_term first | refine wc_eqTol0 ?_ | refine wx_tol0 ?_ | refine wsl_1 ?_ | (refine call_ ?_; first | with_reducible refine callS_ok c1 ?_ | with_reducible refine callS_ok c2 ?_ | with_reducible refine callS_ok c3 ?_) | refine wbl_minI3 ?_ | ((first | refine br_t rfl ?_ | refine br_f rfl ?_ | with_reducible refine br_d (fun hb => ?_) (fun hb => ?_) | with_reducible refine br_nd (fun hb => ?_) (fun hb => ?_) | with_reducible refine br_dn (fun hb => ?_) (fun hb => ?_) | with_reducible refine br_b (fun hb => ?_) (fun hb => ?_) | with_reducible refine br_n (fun hb => ?_) (fun hb => ?_) | refine br (fun hb => ?_) (fun hb => ?_)); all_goals (try (first | exact absurd (by with_reducible assumption) hb | exact absurd hb (by with_reducible assumption) | (exfalso; omega)))))
      exact ⟨rfl, rfl⟩
    · rw [if_neg hxy] at hu
      rw [hu]
      cases hx : decide (x ∈ [sL [97], sL [101], sL [111]]) <;> cases hy : decide (y ∈ [sL [97], sL [101], sL [111]])
      all_goals
        (show_term first | refine wc_eqTol0 ?_ | refine wx_tol0 ?_ | refine wsl_1 ?_ | refine wc_eqBb ?_ | (rw [hx]) | (rw [hy]) | (refine call_ ?_; first | with_reducible refine callS_ok c1 ?_ | with_reducible refine callS_ok c2 ?_ | with_reducible refine callS_ok c3 ?_) | refine wbl_minI3 ?_ | ((first | refine br_t rfl ?_ | refine br_f rfl ?_ | with_reducible refine br_d (fun hb => ?_) (fun hb => ?_) | with_reducible refine br_nd (fun hb => ?_) (fun hb => ?_) | with_reducible refine br_dn (fun hb => ?_) (fun hb => ?_) | with_reducible refine br_b (fun hb => ?_) (fun hb => ?_) | with_reducible refine br_n (fun hb => ?_) (fun hb => ?_) | refine br (fun hb => ?_) (fun hb => ?_)); all_goals (try (first | exact absurd (by with_reducible assumption) hb | exact absurd hb (by with_reducible assumption) | (exfalso; omega)))))
        try exact ⟨rfl, rfl⟩

theorem brT {k : Bool} {A B : Prop} (h : k = true) (a : A) : Rf.Br k A B := ⟨fun _ => a, fun e => by rw [h] at e; cases e⟩
theorem brF {k : Bool} {A B : Prop} (h : k = false) (b : B) : Rf.Br k A B := ⟨fun e => (by rw [h] at e; cases e), fun _ => b⟩
def tblD (L : Lx) : List (D × D) := L.map fun e => (PyData.str e.1, tolD e.2)
theorem tbl_v {L : Lx} (hn : (wdsL L).Nodup) {e : Str × List Str} (h : e ∈ L) : dVal (tblD L) (.inr e.1) = some (tolD e.2) :=
  dVal_map (kf := fun e : Str × List Str => .str e.1) (vf := fun e => tolD e.2) (qf := fun e => .inr e.1) (fun _ _ => rfl) (by
    rw [show L.map (fun e => (Sum.inr e.1 : L2.Key)) = (wdsL L).map Sum.inr by simp [wdsL]]
    exact hn.map _ fun a b h e => h (Sum.inr.inj e)) h
def wsD (ws : Lx) : D := .tuple [tolD (wdsL ws), tolD (sdsL ws)]
def optR : Option Row → D
  | none => .none
  | some x => rowD x
theorem wc_ltR {x y : Row} {K : Bool → Prop} (k : K (ltR x y)) : Wc .Lt (some (rowD x)) (some (rowD y)) K := wc_of ⟨by
  have h1 := dep_row x
  have h2 : (min (rowD x).depth (rowD y).depth ≤ depL) := by unfold depL; omega
  have h3 := alike_row x y
  show (if (PySem.W.alike (rowD x) (rowD y) && decide (min (rowD x).depth (rowD y).depth ≤ depL)) = true then some (PySem.W.dataLt (rowD x) (rowD y)) else none) = _
  rw [h3, decide_eq_true h2]; rfl⟩ k
theorem minR_snoc (l : List Row) (y : Row) : minR (l ++ [y]) = some (match minR l with | none => y | some x => if ltR y x then y else x) := by
  cases l with
  | nil => rfl
  | cons x r => simp only [minR, List.cons_append, List.foldl_append, List.foldl_cons, List.foldl_nil]
theorem genL_len {L : Lx} {n : Nat} (hl : L.length ≤ 2) : ∀ k, (genL L n k).length ≤ 2 ^ k
  | 0 => by simp [genL]
  | k + 1 => by
    have ih := genL_len (n := n) hl k
    have : ∀ l : List Lx, (l.flatMap fun ws => (L.filter fun e => decide ((sdsL ws).length + e.2.length ≤ n)).map fun e => ws ++ [e]).length ≤ 2 * l.length := fun l => by
      induction l with
      | nil => simp
      | cons ws t ih2 =>
        have h3 : (L.filter fun e => decide ((sdsL ws).length + e.2.length ≤ n)).length ≤ 2 := Nat.le_trans (List.length_filter_le _ _) hl
        rw [List.flatMap_cons, List.length_append, List.length_map, List.length_cons]; omega
    have h2 := this (genL L n k)
    show ((genL L n k).flatMap _).length ≤ _
    rw [Nat.pow_succ]; omega
theorem wb_snocT {w : List Str} {z : Str} {K : Rv → Prop} (h : w.length ≤ 100000) (k : K (.dat (tolD (w ++ [z])))) : Wb .Add (some (tolD w)) (some (.tuple [.str z])) K := wb_addT (xs := w.map .str) (by simp; omega) (by simpa [tolD] using k)
theorem lslip_c {k : Nat} {pr : Int} {L : Lx} {r : List Str} {Q : Sv → List Sv → Prop} {X : Nat → Option D → List Sv → Prop} (hl : L.length ≤ 2) (hL : ∀ e ∈ L, e.2 ≠ []) (hL2 : ∀ e ∈ L, e.2.length ≤ 1000) (hn : (wdsL L).Nodup) (hr : r.length ≤ 3) (hp0 : 0 ≤ pr) (hp : pr ≤ 1000)
    (q : ∀ j x s0, genL L (2 * r.length) j = [] → minR (doneL isF pr L r (2 * r.length) j) = some x → Q (.dat (rowD x)) [s0, .dat (tolD r), .dat (.int pr)]) : CallS G (k + 20) n__law_slip [.dct (tblD L), .dat (tolD r), .dat (.int pr)] Q X := by
  have hch : ∀ ws : Lx, (sdsL ws).length ≤ 6 → callF G (k + 19) n__law_change [.dat (tolD (sdsL ws)), .dat (tolD r), .dat (.int pr)] = .ok (.dat (.int (chg isF pr (sdsL ws) r))) [.dat (tolD (sdsL ws)), .dat (tolD r), .dat (.int pr)] := fun ws h => lchange_s hp0 hp 9 (k + 9) (sdsL ws) r (by omega) (by omega)
  refine callM (F := i__law_slip.fn) rfl rfl m__law_slip (by repeat' first | exact frm_0 | apply frm_c | apply frm_s) ?_
  (show_term fail)
  refine ww_inv (fun m env => ∃ (g : Nat) (s0 s4 : Sv) (o5 o6 o7 o8 o9 : Option Sv), env = [some s0, some (.dat (tolD r)), some (.dat (.int pr)), some (.dat (optR (minR (doneL isF pr L r (2 * r.length) g)))), some s4, o5, o6, o7, o8, o9] ∧ (s0 = .dct (tblD L) ∨ s0 = .fdc (tblD L)) ∧ (s4 = .lst ((genL L (2 * r.length) g).map wsD) ∨ s4 = .dat (.list ((genL L (2 * r.length) g).map wsD))) ∧ m = 10 - g ∧ g ≤ 8) ?_ _ 10 (by show _ < 100000; omega) ⟨0, _, _, _, _, _, _, _, rfl, .inl rfl, .inl rfl, rfl, by omega⟩
  rintro m env ⟨g, s0, s4, o5, o6, o7, o8, o9, rfl, h0, h4, rfl, hg⟩
  by_cases hz : genL L (2 * r.length) g = []
  · have hg0 : g ≠ 0 := fun e => by subst e; simp [genL] at hz
    obtain ⟨x, hm⟩ := minR_some (rs := doneL isF pr L r (2 * r.length) g) (by
      have : keyR isF pr r [] ∈ doneL isF pr L r (2 * r.length) g := (doneL_mem _ g).2 ⟨0, by omega, [], by simp [genL], rfl⟩
      exact List.ne_nil_of_mem this)
    rw [hm]
    rw [hz, List.map_nil] at h4
    rcases h4 with rfl | rfl <;> rcases h0 with rfl | rfl
    all_goals
      (show_term fail)
      exact q g x _ hz hm
  · have ht : truD (.list ((genL L (2 * r.length) g).map wsD)) = true := by
      cases h : genL L (2 * r.length) g with
      | nil => exact absurd h hz
      | cons b t => rfl
    have hg7 : g ≤ 2 * r.length := by
      rcases Nat.lt_or_ge (2 * r.length) g with h | h
      · exact absurd (genL_end hL h) hz
      · exact h
    have hgl := genL_len (n := 2 * r.length) hl g
    have h64 : 2 ^ g ≤ 64 := Nat.le_trans (Nat.pow_le_pow_right (by omega) (show g ≤ 6 by omega)) (by decide)
    rcases h4 with rfl | rfl
    all_goals
      (show_term first | refine brT ht ?_)
      refine wf_inv (f := wsD) (fun pre env => ∃ (s0 : Sv) (s4 o6 o7 o8 o9 : Option Sv), env = [some s0, some (.dat (tolD r)), some (.dat (.int pr)), some (.dat (optR (minR (doneL isF pr L r (2 * r.length) g ++ pre.map (keyR isF pr r))))), s4, some (.lst ((pre.flatMap fun ws => (L.filter fun e => decide ((sdsL ws).length + e.2.length ≤ 2 * r.length)).map fun e => ws ++ [e]).map wsD)), o6, o7, o8, o9] ∧ (s0 = .dct (tblD L) ∨ s0 = .fdc (tblD L))) _ [] ⟨s0, _, _, _, _, _, by rw [List.map_nil, List.append_nil]; rfl, h0⟩ ?_ ?_
      · rintro pre ws suf env he ⟨s0, s4, o6, o7, o8, o9, rfl, h0⟩
        rw [List.nil_append] at he
        have hwm : ws ∈ genL L (2 * r.length) g := by rw [he]; simp
        have hw6 : (sdsL ws).length ≤ 6 := by
          rcases ((genL_mem g ws).1 hwm).2.2 with h | h
          · rw [h]; simp [sdsL]
          · omega
        have hwg := ((genL_mem g ws).1 hwm).1
        have hwl : (wdsL ws).length ≤ 100 := by simp [wdsL]; omega
        have hprl := congrArg List.length he
        simp only [List.length_append, List.length_cons] at hprl
        have hfl : ∀ l : List Lx, (l.flatMap fun ws => (L.filter fun e => decide ((sdsL ws).length + e.2.length ≤ 2 * r.length)).map fun e => ws ++ [e]).length ≤ 2 * l.length := fun l => by
          induction l with
          | nil => simp
          | cons w t ih2 =>
            have h3 : (L.filter fun e => decide ((sdsL w).length + e.2.length ≤ 2 * r.length)).length ≤ 2 := Nat.le_trans (List.length_filter_le _ _) hl
            rw [List.flatMap_cons, List.length_append, List.length_map, List.length_cons]; omega
        have hfl2 := hfl pre
        have hsn : doneL isF pr L r (2 * r.length) g ++ (pre ++ [ws]).map (keyR isF pr r) = (doneL isF pr L r (2 * r.length) g ++ pre.map (keyR isF pr r)) ++ [keyR isF pr r ws] := by simp
        rw [hsn, show wsD ws = .tuple [tolD (wdsL ws), tolD (sdsL ws)] from rfl]
        generalize hD : doneL isF pr L r (2 * r.length) g ++ pre.map (keyR isF pr r) = DD at *
        have hms := minR_snoc DD (keyR isF pr r ws)
        cases hm : minR DD with
        | none =>
          rw [hm] at hms
          dsimp only at hms
          (show_term fail)
          refine callS_ok (hch ws hw6) ?_
          (show_term first | refine wc_ltR (x := keyR isF pr r ws) ?_ | (first | refine br_t rfl ?_ | refine br_f rfl ?_ | with_reducible refine br_d (fun hb => ?_) (fun hb => ?_) | with_reducible refine br_nd (fun hb => ?_) (fun hb => ?_) | with_reducible refine br_dn (fun hb => ?_) (fun hb => ?_) | with_reducible refine br_b (fun hb => ?_) (fun hb => ?_) | with_reducible refine br_n (fun hb => ?_) (fun hb => ?_) | refine br (fun hb => ?_) (fun hb => ?_)))
          all_goals
            rcases h0 with rfl | rfl
          all_goals
            (show_term first | (first | refine wi_kys rfl ?_ | refine wi_kyf rfl ?_))
            rw [show (tblD L).map (·.1) = L.map (fun e => PyData.str e.1) by simp [tblD]]
            refine wf_inv (f := fun e : Str × List Str => PyData.str e.1) (fun pr2 env => ∃ (b9 : D) (o9 : Option Sv), b9 = optR (minR (DD ++ [keyR isF pr r ws])) ∧ env = [some (.fdc (tblD L)), some (.dat (tolD r)), some (.dat (.int pr)), some (.dat b9), s4, some (.lst ((pre.flatMap (fun ws => (L.filter fun e => decide ((sdsL ws).length + e.2.length ≤ 2 * r.length)).map fun e => ws ++ [e]) ++ (pr2.filter fun e => decide ((sdsL ws).length + e.2.length ≤ 2 * r.length)).map fun e => ws ++ [e]).map wsD)), some (.dat (tolD (wdsL ws))), some (.dat (tolD (sdsL ws))), some (.dat (.tuple [.int (chg isF pr (sdsL ws) r), tolD (wdsL ws)])), o9]) _ [] ⟨_, _, ?_, by (rw [List.filter_nil, List.map_nil, List.append_nil]) <;> rfl⟩ ?_ ?_
            · rw [hms]
              first | rfl | (rw [if_pos hb]; done) | (rw [if_pos hb]; rfl) | (rw [hb]; done) | (rw [hb]; rfl) | (simp only [hb]; done) | (simp only [hb]; rfl)
            · rintro pr2 e sf env hpr ⟨b9, o9, hb9, rfl⟩
              rw [List.nil_append] at hpr
              have heL : e ∈ L := by rw [hpr]; simp
              have hval := tbl_v hn heL
              have hel := hL2 e heL
              have hpl2 := congrArg List.length hpr
              simp only [List.length_append, List.length_cons] at hpl2
              have hfl3 : (pr2.filter fun e => decide ((sdsL ws).length + e.2.length ≤ 2 * r.length)).length ≤ pr2.length := List.length_filter_le _ _
              have hsd : wsD (ws ++ [e]) = .tuple [tolD (wdsL ws ++ [e.1]), tolD (sdsL ws ++ e.2)] := by simp [wsD, wdsL, sdsL]
              by_cases hc : (sdsL ws).length + e.2.length ≤ 2 * r.length
              · have hls : ∀ A : List Lx, (A ++ ((pr2 ++ [e]).filter fun e => decide ((sdsL ws).length + e.2.length ≤ 2 * r.length)).map fun e => ws ++ [e]).map wsD = (A ++ (pr2.filter fun e => decide ((sdsL ws).length + e.2.length ≤ 2 * r.length)).map fun e => ws ++ [e]).map wsD ++ [wsD (ws ++ [e])] := fun A => by simp [hc]
                (show_term first | (refine we_fix rfl ?_) | (refine ⟨_, _, _, rfl, rfl, hval, ?_⟩) | refine wbl_lenTol ?_ | (refine wb_snocT (by omega) ?_) | (refine wb_addTol (by omega) ?_) | (refine apS rfl (by simp only [List.length_map, List.length_append]; omega) ?_) | ((first | refine br_t rfl ?_ | refine br_f rfl ?_ | with_reducible refine br_d (fun hb => ?_) (fun hb => ?_) | with_reducible refine br_nd (fun hb => ?_) (fun hb => ?_) | with_reducible refine br_dn (fun hb => ?_) (fun hb => ?_) | with_reducible refine br_b (fun hb => ?_) (fun hb => ?_) | with_reducible refine br_n (fun hb => ?_) (fun hb => ?_) | refine br (fun hb => ?_) (fun hb => ?_)); all_goals (try (first | exact absurd (by with_reducible assumption) hb | exact absurd hb (by with_reducible assumption) | (exfalso; omega)))))
                rw [hls, hsd]
                exact ⟨_, _, hb9, rfl⟩
              · have hls : ((pr2 ++ [e]).filter fun e => decide ((sdsL ws).length + e.2.length ≤ 2 * r.length)) = (pr2.filter fun e => decide ((sdsL ws).length + e.2.length ≤ 2 * r.length)) := by simp [hc]
                (show_term first | (refine we_fix rfl ?_) | (refine ⟨_, _, _, rfl, rfl, hval, ?_⟩) | refine wbl_lenTol ?_ | ((first | refine br_t rfl ?_ | refine br_f rfl ?_ | with_reducible refine br_d (fun hb => ?_) (fun hb => ?_) | with_reducible refine br_nd (fun hb => ?_) (fun hb => ?_) | with_reducible refine br_dn (fun hb => ?_) (fun hb => ?_) | with_reducible refine br_b (fun hb => ?_) (fun hb => ?_) | with_reducible refine br_n (fun hb => ?_) (fun hb => ?_) | refine br (fun hb => ?_) (fun hb => ?_)); all_goals (try (first | exact absurd (by with_reducible assumption) hb | exact absurd hb (by with_reducible assumption) | (exfalso; omega)))))
                rw [hls]
                exact ⟨_, _, hb9, rfl⟩
            · rintro env ⟨b9, o9, rfl, rfl⟩
              rw [List.nil_append]
              (show_term fail)
              refine ⟨_, _, _, _, _, _, by rw [List.flatMap_append, List.flatMap_singleton], .inr rfl⟩
        | some x =>
          rw [hm] at hms
          dsimp only at hms
          (show_term fail)
          refine callS_ok (hch ws hw6) ?_
          (show_term first | refine wc_ltR (x := keyR isF pr r ws) ?_ | (first | refine br_t rfl ?_ | refine br_f rfl ?_ | with_reducible refine br_d (fun hb => ?_) (fun hb => ?_) | with_reducible refine br_nd (fun hb => ?_) (fun hb => ?_) | with_reducible refine br_dn (fun hb => ?_) (fun hb => ?_) | with_reducible refine br_b (fun hb => ?_) (fun hb => ?_) | with_reducible refine br_n (fun hb => ?_) (fun hb => ?_) | refine br (fun hb => ?_) (fun hb => ?_)))
          all_goals
            rcases h0 with rfl | rfl
          all_goals
            (show_term first | (first | refine wi_kys rfl ?_ | refine wi_kyf rfl ?_))
            rw [show (tblD L).map (·.1) = L.map (fun e => PyData.str e.1) by simp [tblD]]
            refine wf_inv (f := fun e : Str × List Str => PyData.str e.1) (fun pr2 env => ∃ (b9 : D) (o9 : Option Sv), b9 = optR (minR (DD ++ [keyR isF pr r ws])) ∧ env = [some (.fdc (tblD L)), some (.dat (tolD r)), some (.dat (.int pr)), some (.dat b9), s4, some (.lst ((pre.flatMap (fun ws => (L.filter fun e => decide ((sdsL ws).length + e.2.length ≤ 2 * r.length)).map fun e => ws ++ [e]) ++ (pr2.filter fun e => decide ((sdsL ws).length + e.2.length ≤ 2 * r.length)).map fun e => ws ++ [e]).map wsD)), some (.dat (tolD (wdsL ws))), some (.dat (tolD (sdsL ws))), some (.dat (.tuple [.int (chg isF pr (sdsL ws) r), tolD (wdsL ws)])), o9]) _ [] ⟨_, _, ?_, by (rw [List.filter_nil, List.map_nil, List.append_nil]) <;> rfl⟩ ?_ ?_
            · rw [hms]
              first | rfl | (rw [if_pos hb]; done) | (rw [if_pos hb]; rfl) | (rw [hb]; done) | (rw [hb]; rfl) | (simp only [hb]; done) | (simp only [hb]; rfl)
            · rintro pr2 e sf env hpr ⟨b9, o9, hb9, rfl⟩
              rw [List.nil_append] at hpr
              have heL : e ∈ L := by rw [hpr]; simp
              have hval := tbl_v hn heL
              have hel := hL2 e heL
              have hpl2 := congrArg List.length hpr
              simp only [List.length_append, List.length_cons] at hpl2
              have hfl3 : (pr2.filter fun e => decide ((sdsL ws).length + e.2.length ≤ 2 * r.length)).length ≤ pr2.length := List.length_filter_le _ _
              have hsd : wsD (ws ++ [e]) = .tuple [tolD (wdsL ws ++ [e.1]), tolD (sdsL ws ++ e.2)] := by simp [wsD, wdsL, sdsL]
              by_cases hc : (sdsL ws).length + e.2.length ≤ 2 * r.length
              · have hls : ∀ A : List Lx, (A ++ ((pr2 ++ [e]).filter fun e => decide ((sdsL ws).length + e.2.length ≤ 2 * r.length)).map fun e => ws ++ [e]).map wsD = (A ++ (pr2.filter fun e => decide ((sdsL ws).length + e.2.length ≤ 2 * r.length)).map fun e => ws ++ [e]).map wsD ++ [wsD (ws ++ [e])] := fun A => by simp [hc]
                (show_term first | (refine we_fix rfl ?_) | (refine ⟨_, _, _, rfl, rfl, hval, ?_⟩) | refine wbl_lenTol ?_ | (refine wb_snocT (by omega) ?_) | (refine wb_addTol (by omega) ?_) | (refine apS rfl (by simp only [List.length_map, List.length_append]; omega) ?_) | ((first | refine br_t rfl ?_ | refine br_f rfl ?_ | with_reducible refine br_d (fun hb => ?_) (fun hb => ?_) | with_reducible refine br_nd (fun hb => ?_) (fun hb => ?_) | with_reducible refine br_dn (fun hb => ?_) (fun hb => ?_) | with_reducible refine br_b (fun hb => ?_) (fun hb => ?_) | with_reducible refine br_n (fun hb => ?_) (fun hb => ?_) | refine br (fun hb => ?_) (fun hb => ?_)); all_goals (try (first | exact absurd (by with_reducible assumption) hb | exact absurd hb (by with_reducible assumption) | (exfalso; omega)))))
                rw [hls, hsd]
                exact ⟨_, _, hb9, rfl⟩
              · have hls : ((pr2 ++ [e]).filter fun e => decide ((sdsL ws).length + e.2.length ≤ 2 * r.length)) = (pr2.filter fun e => decide ((sdsL ws).length + e.2.length ≤ 2 * r.length)) := by simp [hc]
                (show_term first | (refine we_fix rfl ?_) | (refine ⟨_, _, _, rfl, rfl, hval, ?_⟩) | refine wbl_lenTol ?_ | ((first | refine br_t rfl ?_ | refine br_f rfl ?_ | with_reducible refine br_d (fun hb => ?_) (fun hb => ?_) | with_reducible refine br_nd (fun hb => ?_) (fun hb => ?_) | with_reducible refine br_dn (fun hb => ?_) (fun hb => ?_) | with_reducible refine br_b (fun hb => ?_) (fun hb => ?_) | with_reducible refine br_n (fun hb => ?_) (fun hb => ?_) | refine br (fun hb => ?_) (fun hb => ?_)); all_goals (try (first | exact absurd (by with_reducible assumption) hb | exact absurd hb (by with_reducible assumption) | (exfalso; omega)))))
                rw [hls]
                exact ⟨_, _, hb9, rfl⟩
            · rintro env ⟨b9, o9, rfl, rfl⟩
              rw [List.nil_append]
              (show_term fail)
              refine ⟨_, _, _, _, _, _, by rw [List.flatMap_append, List.flatMap_singleton], .inr rfl⟩
      · rintro env ⟨s0, s4, o6, o7, o8, o9, rfl, h0⟩
        rw [List.nil_append]
        (show_term fail)
        exact ⟨10 - (g + 1), by omega, g + 1, s0, _, _, _, _, _, _, rfl, h0, .inr rfl, rfl, by omega⟩

theorem insB_map {α β : Type} (f : α → β) (le : β → β → Bool) (x : α) : ∀ l : List α, insB le (f x) (l.map f) = (insB (fun a b => le (f a) (f b)) x l).map f
  | [] => rfl
  | y :: l => by
    simp only [List.map_cons, insB]
    split
    · rfl
    · rw [insB_map f le x l]; rfl
theorem srtB_map {α β : Type} (f : α → β) (le : β → β → Bool) : ∀ l : List α, srtB le (l.map f) = (srtB (fun a b => le (f a) (f b)) l).map f
  | [] => rfl
  | x :: l => by
    simp only [List.map_cons, srtB]
    rw [srtB_map f le l, insB_map]
def srtS (l : List Str) : List Str := srtB (fun a b => PySem.W.dataLe false id (.str a) (.str b)) l
theorem sortOk_s (l : List Str) (h : l.length ≤ 1000) : sortOk (l.map .str) = true := by
  unfold sortOk
  rw [alikeB_map (f := PyData.str) (fun a b => rfl), decide_eq_true (show PyData.depthAll (l.map PyData.str) ≤ 100 by have := depthAll_map (as := l) (f := PyData.str) (n := 1) (fun _ => by simp [PyData.depth]); omega), sizeOk_of (by simp; omega)]
  have h2 : (l.map PyData.str).all othOk = true := by
    rw [List.all_map]
    exact List.all_eq_true.2 fun _ _ => rfl
  rw [h2, Bool.or_true]; rfl
theorem srtS_perm (l : List Str) : (srtS l).Perm l := srtB_perm l
theorem wbl_sortS {l : List Str} {K : Rv → Prop} (h : l.length ≤ 1000) (k : K (.tl ((srtS l).map .str))) : Wbl .sorted (some [.list (l.map .str)]) K := by
  refine ⟨_, _, rfl, ?_, k⟩
  simp only [bltD, sortOk_s l h, if_true, sortD, srtB_map, srtS]
def rowOf (T : Tng) (w : Str) : List Str := match say T.rs T.en w with
  | .ok r => r
  | .error _ => []
def entL (T : Tng) (W : List Str) : Lx := W.map fun w => (w, rowOf T w)
theorem wds_ent (T : Tng) (W : List Str) : wdsL (entL T W) = W := by simp [wdsL, entL, Function.comp_def]
def GdW (T : Tng) (w : Str) : Prop := ∃ r, say T.rs T.en w = .ok r ∧ r ≠ []
theorem wc_neTol {a b : List Str} {K : Bool → Prop} (k : K (!decide (a = b))) : Wc .NotEq (some (tolD a)) (some (tolD b)) K := wc_of ⟨by
  have hd : min (tolD a).depth (tolD b).depth ≤ 2 := by have := dep_tol a; omega
  have e : eqOk (tolD a) (tolD b) = true := eqOk_l (by have := dep_tol a; omega) rfl rfl
  show (if eqOk (tolD a) (tolD b) = true then some (!PyData.eqv (tolD a) (tolD b)) else none) = _
  rw [if_pos e]
  simp only [tolD, PyData.eqv, eqvAll_strs]⟩ k
theorem wc_neTol0 {a : List Str} {K : Bool → Prop} (k : K (!decide (a = []))) : Wc .NotEq (some (tolD a)) (some (.tuple [])) K := wc_neTol (b := []) k
theorem wc_neT00 {K : Bool → Prop} (k : K false) : Wc .NotEq (some (.tuple [])) (some (.tuple [])) K := wc_neTol (a := []) (b := []) k
theorem lex_c {k : Nat} {ns : List Int} {ts : List D} {T : Tng} {b : Bool} {Q : Sv → List Sv → Prop} {X : Nat → Option D → List Sv → Prop} (hok : T.ok b) (hn : ns.length ≤ 63) (hT : Town ts) (hl : ts.length ≤ 80000)
    (q : ∀ (W : List Str) (ts' : List D), W.length ≤ 2 → W.Nodup → (∀ w ∈ W, GdW T w ∧ (Lz w).length ≤ 3) → Town ts' → ts'.length ≤ ts.length + 300 → Q (.dat (tolD W)) [.dat (Sd ns), .lst ts', .dat T.d, .dat (.int 2)]) : CallS G (k + 4) n__law_drawn_lexicon [.dat (Sd ns), .lst ts, .dat T.d, .dat (.int 2)] Q X := by
  refine callM (F := i__law_drawn_lexicon.fn) rfl rfl m__law_drawn_lexicon (by repeat' first | exact frm_0 | apply frm_c | apply frm_s) ?_
  (show_term first | (refine call_ ?_; refine draw_c hn (by assumption) (by omega) (by omega) (fun rA tA rA0 rA1 hTA hLA => ?_)))
  refine wf_inv (f := nD) (fun pre env => ∃ (tt : List D) (W : List Str) (o5 o6 : Option Sv), env = [some (.dat (Sd ns)), some (.lst tt), some (.dat T.d), some (.dat (.int 2)), some (.lst (W.map .str)), o5, o6] ∧ W.length ≤ pre.length ∧ W.Nodup ∧ (∀ w ∈ W, GdW T w ∧ (Lz w).length ≤ 3) ∧ Town tt ∧ tt.length ≤ tA.length + 120 * pre.length) _ [] ⟨_, [], _, _, rfl, by simp, by simp, by simp, hTA, by simp⟩ ?_ ?_
  · rintro pre a suf env he ⟨tt, W, o5, o6, rfl, hW1, hW2, hW3, hTt, hLt⟩
    have hpl := congrArg List.length he
    simp at hpl
    (show_term first | (refine call_ ?_; refine word_c hn (by assumption) (by omega) (by omega) (by omega) (fun w tw w0 w1 w2 hTw hLw => ?_)))
    have hls := lsounds_s (k := k + 1) hok (w := w) (by omega)
    by_cases hw : w ∈ W
    · (show_term first | ((first | refine br_t rfl ?_ | refine br_f rfl ?_ | with_reducible refine br_d (fun hb => ?_) (fun hb => ?_) | with_reducible refine br_nd (fun hb => ?_) (fun hb => ?_) | with_reducible refine br_dn (fun hb => ?_) (fun hb => ?_) | with_reducible refine br_b (fun hb => ?_) (fun hb => ?_) | with_reducible refine br_n (fun hb => ?_) (fun hb => ?_) | refine br (fun hb => ?_) (fun hb => ?_)); all_goals (try (first | exact absurd (by with_reducible assumption) hb | exact absurd hb (by with_reducible assumption) | (exfalso; omega)))))
      exact ⟨tw, W, _, _, rfl, by simp; omega, hW2, hW3, hTw, by simp; omega⟩
    · cases hsy : say T.rs T.en w with
      | error e =>
        rw [hsy] at hls
        (show_term first | (refine call_ ?_; refine callS_ok hls ?_) | refine wc_neTol0 ?_ | refine wc_neT00 ?_ | ((first | refine br_t rfl ?_ | refine br_f rfl ?_ | with_reducible refine br_d (fun hb => ?_) (fun hb => ?_) | with_reducible refine br_nd (fun hb => ?_) (fun hb => ?_) | with_reducible refine br_dn (fun hb => ?_) (fun hb => ?_) | with_reducible refine br_b (fun hb => ?_) (fun hb => ?_) | with_reducible refine br_n (fun hb => ?_) (fun hb => ?_) | refine br (fun hb => ?_) (fun hb => ?_)); all_goals (try (first | exact absurd (by with_reducible assumption) hb | exact absurd hb (by with_reducible assumption) | (exfalso; omega)))))
        exact ⟨tw, W, _, _, rfl, by simp; omega, hW2, hW3, hTw, by simp; omega⟩
      | ok r =>
        rw [hsy] at hls
        cases r with
        | nil =>
          (show_term first | (refine call_ ?_; refine callS_ok hls ?_) | refine wc_neTol0 ?_ | refine wc_neT00 ?_ | ((first | refine br_t rfl ?_ | refine br_f rfl ?_ | with_reducible refine br_d (fun hb => ?_) (fun hb => ?_) | with_reducible refine br_nd (fun hb => ?_) (fun hb => ?_) | with_reducible refine br_dn (fun hb => ?_) (fun hb => ?_) | with_reducible refine br_b (fun hb => ?_) (fun hb => ?_) | with_reducible refine br_n (fun hb => ?_) (fun hb => ?_) | refine br (fun hb => ?_) (fun hb => ?_)); all_goals (try (first | exact absurd (by with_reducible assumption) hb | exact absurd hb (by with_reducible assumption) | (exfalso; omega)))))
          exact ⟨tw, W, _, _, rfl, by simp; omega, hW2, hW3, hTw, by simp; omega⟩
        | cons x r =>
          have hne : ¬ (x :: r) = [] := by simp
          (show_term first | (refine call_ ?_; refine callS_ok hls ?_) | refine wc_neTol0 ?_ | (refine apS rfl (by simp; omega) ?_) | ((first | refine br_t rfl ?_ | refine br_f rfl ?_ | with_reducible refine br_d (fun hb => ?_) (fun hb => ?_) | with_reducible refine br_nd (fun hb => ?_) (fun hb => ?_) | with_reducible refine br_dn (fun hb => ?_) (fun hb => ?_) | with_reducible refine br_b (fun hb => ?_) (fun hb => ?_) | with_reducible refine br_n (fun hb => ?_) (fun hb => ?_) | refine br (fun hb => ?_) (fun hb => ?_)); all_goals (try (first | exact absurd (by with_reducible assumption) hb | exact absurd hb (by with_reducible assumption) | (exfalso; omega)))))
          refine ⟨tw, W ++ [w], _, _, by rw [List.map_append]; rfl, by simp; omega, ?_, ?_, hTw, by simp; omega⟩
          · rw [List.nodup_append]
            exact ⟨hW2, by simp, fun a ha b hb e => hw (by simp at hb; rw [← hb, ← e]; exact ha)⟩
          · intro z hz
            rcases List.mem_append.1 hz with hz | hz
            · exact hW3 z hz
            · simp at hz
              subst hz
              exact ⟨⟨_, hsy, by simp⟩, by omega⟩
  · rintro env ⟨tt, W, o5, o6, rfl, hW1, hW2, hW3, hTt, hLt⟩
    simp at hW1 hLt
    (show_term first | refine wbl_sortS (by omega) ?_)
    have hp := srtS_perm W
    exact q _ _ (by rw [hp.length_eq]; omega) (hp.nodup_iff.2 hW2) (fun w hw => hW3 w (hp.mem_iff.1 hw)) hTt (by omega)

/-! the same -/
mutual
def good : D → Bool
  | .int _ => true
  | .str _ => true
  | .tuple xs => goods xs
  | _ => false
def goods : List D → Bool
  | [] => true
  | x :: xs => good x && goods xs
end
theorem same_i (k : Nat) (i : Int) : callF G (k + 1) n__law_same [.dat (.int i), .dat (.int i)] = .ok (.dat (.bool true)) [.dat (.int i), .dat (.int i)] := by
  have h : PyData.eqv (.int i) (.int i) = true := by simp [PyData.eqv]
  rw [← h]
  kernel_rfl
theorem same_s (k : Nat) (z : Str) : callF G (k + 1) n__law_same [.dat (.str z), .dat (.str z)] = .ok (.dat (.bool true)) [.dat (.str z), .dat (.str z)] := by
  have h : PyData.eqv (.str z) (.str z) = true := by simp [PyData.eqv]
  rw [← h]
  kernel_rfl
theorem bools_true {α : Type} : ∀ as : List α, boolsOf (as.map fun _ => PyData.bool true) = some (as.map fun _ => true)
  | [] => rfl
  | a :: as => by simp [boolsOf, bools_true as]
theorem blt_all_t {α : Type} {as : List α} : Bl .all [.list (as.map fun _ => .bool true)] (.dat (.bool true)) := ⟨by
  simp only [bltD, bools_true, Option.map_some]
  congr 3
  induction as with
  | nil => rfl
  | cons a as ih => simpa using ih⟩
theorem zip_self : ∀ xs : List D, zipD xs xs = xs.map fun x => .tuple [x, x]
  | [] => rfl
  | x :: xs => by
    have := zip_self xs
    simp only [zipD] at this
    simp [zipD, this]
theorem goods_mem : ∀ {xs : List D}, goods xs = true → ∀ x ∈ xs, good x = true
  | [], _, x, h => by simp at h
  | y :: ys, h, x, hx => by
    simp only [goods, Bool.and_eq_true] at h
    rcases List.mem_cons.1 hx with rfl | hx
    · exact h.1
    · exact goods_mem h.2 x hx
theorem dep_mem : ∀ {xs : List D} {x : D}, x ∈ xs → x.depth ≤ PyData.depthAll xs
  | [], x, h => by simp at h
  | y :: ys, x, hx => by
    simp only [PyData.depthAll]
    rcases List.mem_cons.1 hx with rfl | hx
    · omega
    · have := dep_mem hx; omega
theorem cm_isN {x : D} : Cm .Is x .none (isN x) := ⟨by unfold cmpD; cases x <;> rfl⟩
theorem ev_isi {M : Mach} {env e1 : En} {a : E} {t : Ty} {r : Rv} {x : D} (h : Ev M a env r e1) (hx : Se e1 r x) (nd : isDct x = false := by rfl) : Ev M (.isi a t) env (.dat (.bool (isT t x))) e1 := ⟨by simp [evE, h.eq, hx.eq, nd]⟩
/-- good data are the same as themselves -/
theorem same_d : ∀ (k : Nat) (d : D), good d = true → d.depth < k → (∀ xs, d = .tuple xs → xs.length ≤ 100000) → (∀ xs, d = .tuple xs → ∀ x ∈ xs, ∀ ys, x = .tuple ys → ys.length ≤ 100 ∧ ∀ y ∈ ys, ∀ zs, y ≠ .tuple zs) →
    callF G k n__law_same [.dat d, .dat d] = .ok (.dat (.bool true)) [.dat d, .dat d]
  | 0, d, _, h, _, _ => by omega
  | k + 1, d, hg, hd, hl, hin => by
    cases d with
    | int i => exact same_i k i
    | str z => exact same_s k z
    | tuple xs =>
      have hg : goods xs = true := by simpa [good] using hg
      have hdx : PyData.depthAll xs < k := by simp only [PyData.depth] at hd; omega
      have hlen := hl xs rfl
      refine call_rt (F := i__law_same.fn) rfl rfl (env := [some (.dat (.tuple xs)), some (.dat (.tuple xs)), none, none]) ?_ rfl
      refine ss_nx (st_skip (evT_val (ev_cmp (ev_var rfl) ev_non vw_dat vw_dat cm_isN) vw_dat rfl)) ?_
      refine ss_nx (st_skip (evT_val (ev_isi (x := .tuple xs) (ev_var rfl) vw_dat) vw_dat rfl)) ?_
      refine ss_rt (st_ite_t (evT_val (ev_isi (x := .tuple xs) (ev_var rfl) vw_dat) vw_dat rfl) ?_)
      refine ss_nx (st_skip (evT_or (evTO_f (evT_not (evT_val (ev_isi (x := .tuple xs) (ev_var rfl) vw_dat) vw_dat rfl) rfl) (evTO_one (evT_val (ev_cmp (ev_blt1 (ev_var rfl) vw_dat blt_lenT) (ev_blt1 (ev_var rfl) vw_dat blt_lenT) vw_dat vw_dat cm_neI) vw_dat (by simp [truD])))))) ?_
      refine ss_rt (st_retP (ev_blt1 (ev_cprP (f := fun x : D => .tuple [x, x]) (as := xs) (fun _ => .bool true) ?_ (by omega) fun x hx => ⟨_, rfl, rfl, ?_⟩) vw_tl blt_all_t))
      · have := evI_zipT (M := { call := callF G k, pin := pinsOf 0 [.dat (.tuple xs), .dat (.tuple xs)], gl := G.gl, fuel := G.fuel }) (env := [some (.dat (.tuple xs)), some (.dat (.tuple xs)), none, none]) (ev_var (i := 0) rfl) frz_dat (ev_var (i := 1) rfl) frz_dat
        rwa [zip_self] at this
      · refine ev_app2 (ev_var rfl) (ev_var rfl) (same_d k x (goods_mem hg x hx) ?_ (fun ys e => ?_) (fun ys e y hy zs ez => ?_))
        · have := dep_mem hx; omega
        · have := (hin xs rfl x hx ys e).1; omega
        · exact absurd ez ((hin xs rfl x hx ys e).2 y hy zs)
    | _ => simp [good] at hg

theorem call_ret {k f : Nat} {ss : List Sv} {v : Sv} (h : CallS G k f ss (fun s _ => s = v) (fun _ _ _ => False)) : ∃ outs, callF G k f ss = .ok v outs := by
  have := h.h
  cases hc : callF G k f ss with
  | ok s os => rw [hc] at this; exact ⟨os, by rw [this]⟩
  | exc c p os => rw [hc] at this; exact this.elim
  | no => rw [hc] at this; exact this.elim

theorem same_row (k : Nat) {x : Row} (h : x.2.length ≤ 100) : callF G (k + 5) n__law_same [.dat (rowD x), .dat (rowD x)] = .ok (.dat (.bool true)) [.dat (rowD x), .dat (rowD x)] := by
  have hg : ∀ w : List Str, goods (w.map .str) = true := fun w => by
    induction w with
    | nil => rfl
    | cons z r ih => simp only [List.map_cons, goods, good, Bool.true_and]; exact ih
  refine same_d (k + 5) (rowD x) ?_ ?_ (fun xs e => ?_) (fun xs e d hd ys ey => ?_)
  · show goods [.int x.1, tolD x.2] = true
    simp only [goods, good, tolD, hg, Bool.true_and]
  · have := dep_row x; omega
  · cases e; simp
  · cases e
    simp only [List.mem_cons, List.not_mem_nil, or_false] at hd
    rcases hd with rfl | rfl
    · cases ey
    · cases ey
      refine ⟨by simpa using h, fun y hy zs e => ?_⟩
      obtain ⟨z, _, rfl⟩ := List.mem_map.1 hy
      cases e
theorem tbl_put {L : Lx} {e : Str × List Str} (h : e.1 ∉ wdsL L) : dPut (tblD L) (.str e.1) (.inr e.1) (tolD e.2) = tblD (L ++ [e]) := by
  unfold dPut
  rw [if_neg]
  · simp [tblD]
  · intro ha
    obtain ⟨kv, h1, h2⟩ := List.any_eq_true.1 ha
    obtain ⟨d, hd, rfl⟩ := List.mem_map.1 h1
    have h2 : d.1 = e.1 := by simpa [keyOf] using h2
    exact h (h2 ▸ List.mem_map_of_mem hd)
theorem law_c {ns : List Int} (hn : ns.length ≤ 63) : CallS G 30 n_law [.dat (Sd ns)] (fun s _ => s = .dat (.bool true)) (fun _ _ _ => False) := by
  refine callM (F := i_law.fn) rfl rfl m_law (by repeat' first | exact frm_0 | apply frm_c | apply frm_s) ?_
  (show_term fail)
  refine wf_inv (f := fun i : Nat => PyData.int (0 + (i : Int))) (fun pre env => ∃ (ts : List D) (o2 o3 o4 o5 o6 o7 o9 : Option Sv), env = [some (.dat (Sd ns)), some (.lst ts), o2, o3, o4, o5, o6, o7, none, o9] ∧ Town ts ∧ ts.length ≤ 1000 * pre.length) _ [] ⟨_, _, _, _, _, _, _, _, rfl, .inl rfl, by simp⟩ ?_ ?_
  · rintro pre a suf env he ⟨ts, o2, o3, o4, o5, o6, o7, o9, rfl, hT, hL⟩
    have hpl := congrArg List.length he
    simp only [List.nil_append, List.length_range, List.length_append, List.length_cons] at hpl
    have hpl : 3 = pre.length + (suf.length + 1) := hpl
    obtain ⟨T, tT, hcT, hok, hTT, hLT⟩ := tongue_s 24 hn hT (by omega) true
    (show_term fail)
    refine callS_ok hcT ?_
    (show_term fail)
    refine lex_c (k := 25) hok hn hTT (by omega) (fun W tL hW1 hW2 hW3 hTL hLL => ?_)
    have hwd := wds_ent T W
    have hL : ∀ e ∈ entL T W, say T.rs T.en e.1 = .ok e.2 ∧ (Lz e.1).length ≤ 3 ∧ e.2 ≠ [] := fun e h => by
      obtain ⟨w, hw, rfl⟩ := List.mem_map.1 h
      obtain ⟨⟨r, h1, h2⟩, h3⟩ := hW3 w hw
      have h4 : rowOf T w = r := by unfold rowOf; rw [h1]
      exact ⟨by simp only [h4]; exact h1, h3, by simp only [h4]; exact h2⟩
    have hLl : (entL T W).length ≤ 2 := by simp [entL]; omega
    have hLn : (wdsL (entL T W)).Nodup := by rw [hwd]; exact hW2
    rw [← hwd]
    generalize entL T W = L at *
    clear hW3 hW2 hW1
    (show_term fail)
    rw [show (wdsL L).map PyData.str = L.map (fun e => PyData.str e.1) by simp [wdsL]]
    refine wf_inv (f := fun e : Str × List Str => PyData.str e.1) (fun pre2 env => ∃ (o6 : Option Sv), env = [some (.dat (Sd ns)), some (.lst tL), some (.dat (.int (0 + (a : Int)))), some (.dat T.d), some (.dat (tolD (wdsL L))), some (.dct (tblD pre2)), o6, o7, none, o9]) _ [] ⟨_, rfl⟩ ?_ ?_
    · rintro pre2 e sf env hpr ⟨o6, rfl⟩
      rw [List.nil_append] at hpr
      obtain ⟨he1, he2, _⟩ := hL e (by rw [hpr]; simp)
      have hni : e.1 ∉ wdsL pre2 := fun hc => by
        rw [hpr] at hLn
        simp only [wdsL, List.map_append, List.map_cons, List.nodup_append] at hLn hc
        exact hLn.2.2 _ hc _ List.mem_cons_self rfl
      have hls := lsounds_s (k := 27) hok (w := e.1) (by omega)
      rw [he1] at hls
      have hpl2 := congrArg List.length hpr
      simp only [List.length_append, List.length_cons] at hpl2
      (show_term fail)
      refine callS_ok hls ?_
      (show_term first | (refine stD rfl rfl (by simp [tblD]; omega) ?_))
      rw [show optE (.ok e.2) = tolD e.2 from rfl, tbl_put hni]
      exact ⟨_, rfl⟩
    rintro env ⟨o6, rfl⟩
    rw [List.nil_append]
    (show_term first | (refine call_ ?_; refine draw_c hn (by assumption) (by omega) (by omega) (fun rB tB rB0 rB1 hTB hLB => ?_)))
    refine wcp_st (f := nD) (fun t3 : List D => [some (.dat (Sd ns)), some (.lst t3), some (.dat (.int (0 + (a : Int)))), some (.dat T.d), some (.dat (tolD (wdsL L))), some (.dct (tblD L)), o6, o7, none, o9]) (fun pr acc t3 => ∃ w : List Str, acc = w.map .str ∧ w.length = pr.length ∧ Town t3 ∧ t3.length ≤ tB.length + 2 * pr.length) (s0 := _) (by simp; omega) rfl ⟨[], rfl, rfl, by assumption, by simp⟩ (by intro s v hv; simp at hv; subst hv; rfl) ?_ ?_
    · rintro pr b sf acc t3 hpr ⟨w, rfl, hw, hTt, hLt⟩
      have hpl2 := congrArg List.length hpr
      simp at hpl2
      refine wcb ?_
      (show_term first | (refine call_ ?_; refine pick_cS (by repeat' first | exact strs_nil | apply strs_cons) hn (by assumption) (by omega) (by simp) (by simp) (fun z ts hz hT hL => ?_)))
      exact ⟨_, rfl, w ++ [z], by simp, by simp [hw], by assumption, by simp; omega⟩
    rintro acc t3 ⟨w, rfl, hw, hTt, hLt⟩
    simp at hw hLt
    have hw3 : w.length ≤ 3 := by omega
    (show_term first | (refine call_ ?_; refine draw_c hn (by assumption) (by omega) (by omega) (fun rC tC rC0 rC1 hTC hLC => ?_)))
    refine slip_c (k := 23) hok (by omega) (fun e he => ⟨(hL e he).1, by have := (hL e he).2.1; omega, (hL e he).2.2, ?_⟩) (by omega) (by omega) (by omega) (fun x hx => ?_)
    · have h1 := (say_row hok (hL e he).1).2
      have h2 := (hL e he).2.1
      omega
    (show_term fail)
    refine lslip_c (k := 9) hLl (fun e he => (hL e he).2.2) (fun e he => ?_) hLn hw3 (by omega) (by omega) (fun j y s0 hj hm => ?_)
    · have h1 := (say_row hok (hL e he).1).2
      have h2 := (hL e he).2.1
      omega
    have hxy := slip_same (by omega) (fun e he => (hL e he).2.2) hx hj hm
    subst hxy
    have hwl := wy_len hx.mem
    (show_term fail)
    refine callS_ok (same_row 24 (by omega)) ?_
    (show_term fail)
    exact ⟨_, _, _, _, _, _, _, _, rfl, by assumption, by simp only [List.length_append, List.length_singleton]; omega⟩
  · rintro env ⟨ts, o2, o3, o4, o5, o6, o7, o9, rfl, hT, hL⟩
    (show_term fail)
    rfl
theorem law_true (ns : List Int) (hl : ns.length ≤ 63) : ∃ outs, callF G 30 n_law [.dat (.list (ns.map .int))] = .ok (.dat (.bool true)) outs := call_ret (law_c hl)

end Lw
open PySem PySem.W PyProof.Rows
set_option maxRecDepth 100000 in
set_option maxHeartbeats 0 in
theorem PySem.Challenge.cw_saywright_k20_slips_by_hand_holds : PySem.Challenge.rw_saywright_k20_slips_by_hand.Holds := by
  w_on; o_law; k_head; (case hw => w_witness2)
  k_fill
  refine L2.walk_of (l := PySem.Challenge.rw_saywright_k20_slips_by_hand) (n := 63) (k := 32) (x := "script") (CX := fun w => L2.CX PySem.Challenge.pw_saywright_k20_slips_by_hand w) (sp := fun w => Rf.spL _ Lw.exn 1 (Rf.callF Lw.G 30 Lw.n_law)) rfl (by decide) rfl ⟨rfl, by decide, by decide⟩ (fun w h Y => PySem.W.kIn_of Y) ?F (fun _ _ a ns hl _ hS => Rf.law_sp hS (Lw.law_true ns hl)) (fun w H s e s' h => Rf.noCX h)
  case F =>
    intro w mg fa h KX G hmg
    refine Rf.law_F (tab := Lw.tab) (i := Lw.i_law) (n := Lw.n_law) rfl rfl (P := PySem.Challenge.pw_saywright_k20_slips_by_hand) (w := w) (exn := Lw.exn) (gls := Lw.gls) (exp := Lw.exp) ?T ?EX hmg rfl rfl
    refine ⟨Rf.all_get ?_, ?b1, ?b2, ?b3, ?b4, ?b5, ?b6⟩
    refine' Rf.all_cons (Rf.fn_fact (i := Lw.i_full_names) KX G ?a_full_names ?l_full_names ?c_full_names ?k_full_names (fun _ _ _ _ _ _ us hl => match us, hl with | [_], _ => rfl) Lw.sc_full_names Lw.lk_full_names) ?_
    case a_full_names => k_is
    case l_full_names => k_is
    case c_full_names => k_is
    case k_full_names => k_is
    refine' Rf.all_cons (Rf.fn_fact (i := Lw.i_stands) KX G ?a_stands ?l_stands ?c_stands ?k_stands (fun _ _ _ _ _ _ us hl => match us, hl with | [_, _, _], _ => rfl) Lw.sc_stands Lw.lk_stands) ?_
    case a_stands => k_is
    case l_stands => k_is
    case c_stands => k_is
    case k_stands => k_is
    refine' Rf.all_cons (Rf.fn_fact (i := Lw.i_listed) KX G ?a_listed ?l_listed ?c_listed ?k_listed (fun _ _ _ _ _ _ us hl => match us, hl with | [_, _], _ => rfl) Lw.sc_listed Lw.lk_listed) ?_
    case a_listed => k_is
    case l_listed => k_is
    case c_listed => k_is
    case k_listed => k_is
    refine' Rf.all_cons (Rf.fn_fact (i := Lw.i_by_rules) KX G ?a_by_rules ?l_by_rules ?c_by_rules ?k_by_rules (fun _ _ _ _ _ _ us hl => match us, hl with | [_, _], _ => rfl) Lw.sc_by_rules Lw.lk_by_rules) ?_
    case a_by_rules => k_is
    case l_by_rules => k_is
    case c_by_rules => k_is
    case k_by_rules => k_is
    refine' Rf.all_cons (Rf.fn_fact (i := Lw.i_said_by_rules) KX G ?a_said_by_rules ?l_said_by_rules ?c_said_by_rules ?k_said_by_rules (fun _ _ _ _ _ _ us hl => match us, hl with | [_, _], _ => rfl) Lw.sc_said_by_rules Lw.lk_said_by_rules) ?_
    case a_said_by_rules => k_is
    case l_said_by_rules => k_is
    case c_said_by_rules => k_is
    case k_said_by_rules => k_is
    refine' Rf.all_cons (Rf.fn_fact (i := Lw.i_said) KX G ?a_said ?l_said ?c_said ?k_said (fun _ _ _ _ _ _ us hl => match us, hl with | [_, _], _ => rfl) Lw.sc_said Lw.lk_said) ?_
    case a_said => k_is
    case l_said => k_is
    case c_said => k_is
    case k_said => k_is
    refine' Rf.all_cons (Rf.fn_fact (i := Lw.i_all_said) KX G ?a_all_said ?l_all_said ?c_all_said ?k_all_said (fun _ _ _ _ _ _ us hl => match us, hl with | [_, _], _ => rfl) Lw.sc_all_said Lw.lk_all_said) ?_
    case a_all_said => k_is
    case l_all_said => k_is
    case c_all_said => k_is
    case k_all_said => k_is
    refine' Rf.all_cons (Rf.fn_fact (i := Lw.i_unlikeness) KX G ?a_unlikeness ?l_unlikeness ?c_unlikeness ?k_unlikeness (fun _ _ _ _ _ _ us hl => match us, hl with | [_, _, _], _ => rfl) Lw.sc_unlikeness Lw.lk_unlikeness) ?_
    case a_unlikeness => k_is
    case l_unlikeness => k_is
    case c_unlikeness => k_is
    case k_unlikeness => k_is
    refine' Rf.all_cons (Rf.fn_fact (i := Lw.i_distances) KX G ?a_distances ?l_distances ?c_distances ?k_distances (fun _ _ _ _ _ _ us hl => match us, hl with | [_, _, _, _], _ => rfl) Lw.sc_distances Lw.lk_distances) ?_
    case a_distances => k_is
    case l_distances => k_is
    case c_distances => k_is
    case k_distances => k_is
    refine' Rf.all_cons (Rf.fn_fact (i := Lw.i_slip) KX G ?a_slip ?l_slip ?c_slip ?k_slip (fun _ _ _ _ _ _ us hl => match us, hl with | [_, _, _, _], _ => rfl) Lw.sc_slip Lw.lk_slip) ?_
    case a_slip => k_is
    case l_slip => k_is
    case c_slip => k_is
    case k_slip => k_is
    refine' Rf.all_cons (Rf.fn_fact (i := Lw.i__law_same) KX G ?a__law_same ?l__law_same ?c__law_same ?k__law_same (fun _ _ _ _ _ _ us hl => match us, hl with | [_, _], _ => rfl) Lw.sc__law_same Lw.lk__law_same) ?_
    case a__law_same => k_is
    case l__law_same => k_is
    case c__law_same => k_is
    case k__law_same => k_is
    refine' Rf.all_cons (Rf.fn_fact (i := Lw.i__law_draw) KX G ?a__law_draw ?l__law_draw ?c__law_draw ?k__law_draw (fun _ _ _ _ _ _ us hl => match us, hl with | [_, _, _], _ => rfl) Lw.sc__law_draw Lw.lk__law_draw) ?_
    case a__law_draw => k_is
    case l__law_draw => k_is
    case c__law_draw => k_is
    case k__law_draw => k_is
    refine' Rf.all_cons (Rf.fn_fact (i := Lw.i__law_pick) KX G ?a__law_pick ?l__law_pick ?c__law_pick ?k__law_pick (fun _ _ _ _ _ _ us hl => match us, hl with | [_, _, _], _ => rfl) Lw.sc__law_pick Lw.lk__law_pick) ?_
    case a__law_pick => k_is
    case l__law_pick => k_is
    case c__law_pick => k_is
    case k__law_pick => k_is
    refine' Rf.all_cons (Rf.fn_fact (i := Lw.i__law_words) KX G ?a__law_words ?l__law_words ?c__law_words ?k__law_words (fun _ _ _ _ _ _ us hl => match us, hl with | [], _ => rfl) Lw.sc__law_words Lw.lk__law_words) ?_
    case a__law_words => k_is
    case l__law_words => k_is
    case c__law_words => k_is
    case k__law_words => k_is
    refine' Rf.all_cons (Rf.fn_fact (i := Lw.i__law_drawn_told) KX G ?a__law_drawn_told ?l__law_drawn_told ?c__law_drawn_told ?k__law_drawn_told (fun _ _ _ _ _ _ us hl => match us, hl with | [_, _, _], _ => rfl) Lw.sc__law_drawn_told Lw.lk__law_drawn_told) ?_
    case a__law_drawn_told => k_is
    case l__law_drawn_told => k_is
    case c__law_drawn_told => k_is
    case k__law_drawn_told => k_is
    refine' Rf.all_cons (Rf.fn_fact (i := Lw.i__law_drawn_rule) KX G ?a__law_drawn_rule ?l__law_drawn_rule ?c__law_drawn_rule ?k__law_drawn_rule (fun _ _ _ _ _ _ us hl => match us, hl with | [_, _], _ => rfl) Lw.sc__law_drawn_rule Lw.lk__law_drawn_rule) ?_
    case a__law_drawn_rule => k_is
    case l__law_drawn_rule => k_is
    case c__law_drawn_rule => k_is
    case k__law_drawn_rule => k_is
    refine' Rf.all_cons (Rf.fn_fact (i := Lw.i__law_drawn_tongue) KX G ?a__law_drawn_tongue ?l__law_drawn_tongue ?c__law_drawn_tongue ?k__law_drawn_tongue (fun _ _ _ _ _ _ us hl => match us, hl with | [_, _, _], _ => rfl) Lw.sc__law_drawn_tongue Lw.lk__law_drawn_tongue) ?_
    case a__law_drawn_tongue => k_is
    case l__law_drawn_tongue => k_is
    case c__law_drawn_tongue => k_is
    case k__law_drawn_tongue => k_is
    refine' Rf.all_cons (Rf.fn_fact (i := Lw.i__law_drawn_word) KX G ?a__law_drawn_word ?l__law_drawn_word ?c__law_drawn_word ?k__law_drawn_word (fun _ _ _ _ _ _ us hl => match us, hl with | [_, _, _], _ => rfl) Lw.sc__law_drawn_word Lw.lk__law_drawn_word) ?_
    case a__law_drawn_word => k_is
    case l__law_drawn_word => k_is
    case c__law_drawn_word => k_is
    case k__law_drawn_word => k_is
    refine' Rf.all_cons (Rf.fn_fact (i := Lw.i__law_stands) KX G ?a__law_stands ?l__law_stands ?c__law_stands ?k__law_stands (fun _ _ _ _ _ _ us hl => match us, hl with | [_, _, _], _ => rfl) Lw.sc__law_stands Lw.lk__law_stands) ?_
    case a__law_stands => k_is
    case l__law_stands => k_is
    case c__law_stands => k_is
    case k__law_stands => k_is
    refine' Rf.all_cons (Rf.fn_fact (i := Lw.i__law_sounds) KX G ?a__law_sounds ?l__law_sounds ?c__law_sounds ?k__law_sounds (fun _ _ _ _ _ _ us hl => match us, hl with | [_, _], _ => rfl) Lw.sc__law_sounds Lw.lk__law_sounds) ?_
    case a__law_sounds => k_is
    case l__law_sounds => k_is
    case c__law_sounds => k_is
    case k__law_sounds => k_is
    refine' Rf.all_cons (Rf.fn_fact (i := Lw.i__law_drawn_lexicon) KX G ?a__law_drawn_lexicon ?l__law_drawn_lexicon ?c__law_drawn_lexicon ?k__law_drawn_lexicon (fun _ _ _ _ _ _ us hl => match us, hl with | [_, _, _, _], _ => rfl) Lw.sc__law_drawn_lexicon Lw.lk__law_drawn_lexicon) ?_
    case a__law_drawn_lexicon => k_is
    case l__law_drawn_lexicon => k_is
    case c__law_drawn_lexicon => k_is
    case k__law_drawn_lexicon => k_is
    refine' Rf.all_cons (Rf.fn_fact (i := Lw.i__law_change) KX G ?a__law_change ?l__law_change ?c__law_change ?k__law_change (fun _ _ _ _ _ _ us hl => match us, hl with | [_, _, _], _ => rfl) Lw.sc__law_change Lw.lk__law_change) ?_
    case a__law_change => k_is
    case l__law_change => k_is
    case c__law_change => k_is
    case k__law_change => k_is
    refine' Rf.all_cons (Rf.fn_fact (i := Lw.i__law_slip) KX G ?a__law_slip ?l__law_slip ?c__law_slip ?k__law_slip (fun _ _ _ _ _ _ us hl => match us, hl with | [_, _, _], _ => rfl) Lw.sc__law_slip Lw.lk__law_slip) ?_
    case a__law_slip => k_is
    case l__law_slip => k_is
    case c__law_slip => k_is
    case k__law_slip => k_is
    refine' Rf.all_cons (Rf.fn_fact (i := Lw.i_law) KX G ?a_law ?l_law ?c_law ?k_law (fun _ _ _ _ _ _ us hl => match us, hl with | [_], _ => rfl) Lw.sc_law Lw.lk_law) ?_
    case a_law => k_is
    case l_law => k_is
    case c_law => k_is
    case k_law => k_is
    exact Rf.all_nil
    case b1 => exact Rf.blt_fact KX G (by k_is) (by k_is) (by k_is) (by k_is) (by k_is) (by k_is) (by k_is) (by k_is) (by k_is) (by k_is) (by k_is) (by k_is) (by k_is) (by k_is) (by k_is)
    case b2 => exact PySem.W.mg_none_of KX G (by k_is)
    case b3 => exact PySem.W.mg_none_of KX G (by k_is)
    case b4 => exact PySem.W.mg_none_of KX G (by k_is)
    case b5 => exact PySem.W.mg_none_of KX G (by k_is)
    case b6 =>
      refine' Rf.GlB.at_ (ds := Lw.glD) .nil
    case EX =>
      refine' ⟨_, Rf.ex_fact (exn := Lw.exn) (exp := Lw.exp) KX G (.cons true rfl ⟨?ns0, ?kp0, ?ex0, ?sb0, ?ty0, ?cl0⟩ .nil) ?m (.cons (c := 0) rfl ?pl0 .nil)⟩
      case ns0 => k_is
      case kp0 => k_is
      case ex0 => exact fun e => nomatch e
      case sb0 => k_is
      case ty0 => k_is
      case cl0 => k_is
      case pl0 =>
        refine' Rf.pl_mk (st := Lw.ini_NoRule) (qual := "NoRule.__init__") KX G ?a1 ?a0 ?a2 ?a3 ?a4 ?a5 ?a6 ?a7 ?a8 ?a9 ?e1 ?e2 ?e3 ?e4 ?e5 ?c1 ?c2 ?c3 ?c4 Lw.sci_NoRule (by decide +kernel) (by decide +kernel) (by decide +kernel) (by decide +kernel) (fun _ _ _ _ _ _ us hl => match us, hl with | [_, _], _ => rfl)
        case a1 => k_is
        case a2 => k_is
        case a3 => k_is
        case a4 => k_is
        case a5 => k_is
        case a6 => k_is
        case a7 => k_is
        case a8 => k_is
        case a9 => k_is
        case e1 => k_is
        case e2 => k_is
        case e3 => k_is
        case e4 => k_is
        case e5 => k_is
        case c1 => k_is
        case c2 => k_is
        case c3 => k_is
        case c4 => k_is
        case a0 => decide +kernel
      case m =>
        refine (.cons (.cons true rfl ?x0_0 .nil) .nil)
        case x0_0 => first | rfl | k_is


import PyProof.Rows.All
import Wide.All
import OpenK.AllK
import Wide.FinOn
import HandS.ForMost
import HandS.TupAny
import HandS.Zip
import HandS.Wide
import HandS.Deep
import HandS.Style
import HandS.IsInst
import HandS.SortOrd
import PyProof.Rows.ReprR
import KE.DataMinMax
import HandS.TupMul
import HandS.SortInts
import HandS.More
import HandS.SetFor
import HandS.DictComp
import HandS.Conv
import HandS.NoneIn
import HandS.Gcd
import HandS.Words
import HandS.Ends
import KE.KMathGC
import PySem.Challenge.RW_websincubes_k48_whole_steps_down
set_option Elab.async false
set_option linter.all false
set_option maxRecDepth 100000
set_option maxHeartbeats 4000000
/-! Rf0: values, stores, the small language and what it computes. No model of Python here. -/
namespace Rf
open PySem L2

inductive Val where
  | non | bl (b : Bool) | int (i : Int) | str (x : Str) | tup (xs : List Val) | ftup (xs : List Val) | ref (n : Nat) | ty (n : String)
instance : Inhabited Val := ⟨.non⟩

inductive Obj where
  | lst (lk : Bool) (xs : List Val)
  | dk (lk : Bool) (kvs : List (Key × Val))
  | dt (lk : Bool) (kvs : List (List Key × Val))
abbrev Store := List Obj
abbrev Env := List (Option Val)
abbrev R (α : Type) := Option (α × Store)
def bnd {α γ : Type} (x : R α) (f : α → Store → Option γ) : Option γ := match x with
  | none => none
  | some (a, S) => f a S
@[simp] theorem bnd_some {α γ : Type} (a : α) (S : Store) (f : α → Store → Option γ) : bnd (some (a, S)) f = f a S := rfl
@[simp] theorem bnd_none {α γ : Type} (f : α → Store → Option γ) : bnd (none : R α) f = none := rfl
theorem bnd_eq_some {α γ : Type} {x : R α} {f : α → Store → Option γ} {r : γ} (h : bnd x f = some r) : ∃ a S, x = some (a, S) ∧ f a S = some r := by
  cases x with
  | none => cases h
  | some p => exact ⟨p.1, p.2, rfl, h⟩
def mapO {α β : Type} (f : α → Option β) : List α → Option (List β)
  | [] => some []
  | x :: xs => match f x with
    | none => none
    | some y => match mapO f xs with
      | none => none
      | some ys => some (y :: ys)

/-- a value's data -/
def toD : Nat → Store → Val → Option PyData
  | 0, _, _ => none
  | k + 1, S, v => match v with
    | .non => some .none
    | .bl b => some (.bool b)
    | .int i => some (.int i)
    | .str x => some (.str x)
    | .tup xs => (mapO (toD k S) xs).map .tuple
    | .ref n => match S[n]? with
      | some (.lst _ xs) => (mapO (toD k S) xs).map .list
      | _ => none
    | .ty _ => none
    | .ftup _ => none
def dataOf (S : Store) (v : Val) : Option PyData := toD 20 S v

/-! ### operators -/
inductive Bop where | add | sub | mul | fdiv | mod | pow | shl
  deriving DecidableEq
inductive Cop where | eq | ne | lt | le | gt | ge | is | isnot | isin | notin
  deriving DecidableEq
def small64 (i : Int) : Bool := decide (-(2 ^ 64) < i) && decide (i < 2 ^ 64)
def mulOk (i j : Int) : Bool := small64 i || small64 j
def newL (xs : List Val) (S : Store) : R Val := if xs.length ≤ sizeLine then some (.ref S.length, S ++ [.lst false xs]) else none
def newT (xs : List Val) (S : Store) : R Val := if xs.length ≤ sizeLine then some (.tup xs, S) else none
def addV : Val → Val → Store → R Val
  | .int i, .int j, S => some (.int (i + j), S)
  | .str x, .str y, S => if x.length + y.length ≤ sizeLine then some (.str (x ++ y), S) else none
  | .tup xs, .tup ys, S => newT (xs ++ ys) S
  | .ref m, .ref n, S => match S[m]?, S[n]? with
    | some (.lst false xs), some (.lst false ys) => newL (xs ++ ys) S
    | _, _ => none
  | _, _, _ => none
def mulV : Val → Val → Store → R Val
  | .int i, .int j, S => if mulOk i j then some (.int (i * j), S) else none
  | .ref m, .int k, S => match S[m]? with
    | some (.lst false xs) => if decide (-(2 ^ 63) ≤ k) && decide (k < 2 ^ 63) && decide (xs.length * k.toNat ≤ sizeLine) then newL (List.replicate k.toNat xs).flatten S else none
    | _ => none
  | .tup xs, .int k, S => if !xs.isEmpty && decide (2 ≤ k) && decide (k ≤ 1000) && decide (xs.length ≤ 1000) then some (.tup (List.replicate k.toNat xs).flatten, S) else none
  | _, _, _ => none
def binV : Bop → Val → Val → Store → R Val
  | .add, a, b, S => addV a b S
  | .mul, a, b, S => mulV a b S
  | .sub, .int i, .int j, S => some (.int (i - j), S)
  | .fdiv, .int i, .int j, S => if decide (0 < j) && decide (j < 1073741824) then some (.int (i / j), S) else none
  | .mod, .int i, .int j, S => if decide (0 < j) then some (.int (i % j), S) else none
  | .pow, .int i, .int j, S => if decide (0 ≤ j) && decide (j ≤ 1000000) && decide (i.natAbs < 2 ^ 64) then some (.int (i ^ j.toNat), S) else none
  | .shl, .int i, .int j, S => if decide (0 ≤ j) && decide (j ≤ 1000000) && decide (i.natAbs < 2 ^ 64) then some (.int (i * 2 ^ j.toNat), S) else none
  | _, _, _, _ => none
def eqV (a b : Val) (S : Store) : Option Bool := match dataOf S a, dataOf S b with
  | some d, some e => if SeqAt.shaped d && SeqAt.shaped e then some (PyData.eqv d e) else none
  | _, _ => none
/-- keys of dicts -/
def keyOf : Val → Option Key
  | .int i => some (.inl i)
  | .str x => some (.inr x)
  | _ => none
def keysOf : Val → Option (List Key)
  | .tup xs => mapO keyOf xs
  | _ => none
def getK {κ : Type} [DecidableEq κ] : List (κ × Val) → κ → Option Val
  | [], _ => none
  | (k', v) :: r, k => if k' = k then some v else getK r k
def replK {κ : Type} [DecidableEq κ] (k : κ) (v : Val) : List (κ × Val) → List (κ × Val)
  | [] => []
  | (k', x) :: r => if k' = k then (k', v) :: replK k v r else (k', x) :: replK k v r
def putV {κ : Type} [DecidableEq κ] (kvs : List (κ × Val)) (k : κ) (v : Val) : List (κ × Val) :=
  if (getK kvs k).isSome then replK k v kvs else kvs ++ [(k, v)]
/-- d[y]: none: no such look; some none: not there -/
def dGet (o : Obj) (y : Val) : Option (Option Val) := match o with
  | .dk lk kvs => match keyOf y with
    | some k => some (getK kvs k)
    | none => match keysOf y, lk, kvs with
      | some _, false, [] => some none
      | _, _, _ => none
  | .dt lk kvs => match keysOf y with
    | some k => some (getK kvs k)
    | none => match keyOf y, lk, kvs with
      | some _, false, [] => some none
      | _, _, _ => none
  | _ => none
def dPut (o : Obj) (y v : Val) : Option Obj := match o with
  | .dk false kvs => match keyOf y with
    | some k => if kvs.length < sizeLine then some (.dk false (putV kvs k v)) else none
    | none => match keysOf y, kvs with
      | some k, [] => some (.dt false [(k, v)])
      | _, _ => none
  | .dt false kvs => match keysOf y with
    | some k => if kvs.length < sizeLine then some (.dt false (putV kvs k v)) else none
    | none => match keyOf y, kvs with
      | some k, [] => some (.dk false [(k, v)])
      | _, _ => none
  | _ => none
def inV (x : Val) (c : Val) (S : Store) : Option Bool := match c with
  | .ref n => match S[n]? with
    | some (.lst _ _) => match dataOf S x, dataOf S c with
      | some d, some (.list ds) => if SeqAt.shaped d && SeqAt.shaped (.list ds) then some (ds.any fun z => PyData.eqv z d) else none
      | _, _ => none
    | some o => (dGet o x).map (·.isSome)
    | none => none
  | .tup _ => match dataOf S x, dataOf S c with
    | some d, some (.tuple ds) => if SeqAt.shaped d && SeqAt.shaped (.tuple ds) then some (ds.any fun z => PyData.eqv z d) else none
    | _, _ => none
  | _ => none
def cmpV : Cop → Val → Val → Store → Option Bool
  | .eq, a, b, S => eqV a b S
  | .ne, a, b, S => (eqV a b S).map (!·)
  | .lt, .int i, .int j, _ => some (decide (i < j))
  | .le, .int i, .int j, _ => some (decide (i ≤ j))
  | .gt, .int i, .int j, _ => some (decide (j < i))
  | .ge, .int i, .int j, _ => some (decide (j ≤ i))
  | .is, .bl a, .bl b, _ => some (decide (a = b))
  | .isnot, .bl a, .bl b, _ => some (!decide (a = b))
  | .is, .non, .non, _ => some true
  | .isnot, .non, .non, _ => some false
  | .is, _, .non, _ => some false
  | .isnot, _, .non, _ => some true
  | .isin, a, b, S => inV a b S
  | .notin, a, b, S => (inV a b S).map (!·)
  | _, _, _, _ => none
def ixV : Val → Val → Store → Option Val
  | .tup xs, .int i, _ => atI xs i
  | .ftup xs, .int i, _ => atI xs i
  | .str z, .int i, _ => if z.length ≤ sizeLine then (atI z.cps.toList i).map fun c => .str ⟨#[c]⟩ else none
  | .ref n, y, S => match S[n]? with
    | some (.lst _ xs) => match y with
      | .int i => atI xs i
      | _ => none
    | some o => match dGet o y with
      | some (some v) => some v
      | _ => none
    | none => none
  | _, _, _ => none
/-- a slice's part: nl: it is not written -/
def part (nl : Bool) : Val → Option (Option Int)
  | .non => if nl then some none else none
  | .int i => if nl then none else some (some i)
  | _ => none
def cut {α : Type} (xs : List α) (lo hi : Option Int) : List α := (xs.drop (HT.sIx xs.length 0 lo)).take (HT.sIx xs.length xs.length hi - HT.sIx xs.length 0 lo)
def slV (a : Val) (lo hi : Option Int) (S : Store) : R Val := match a with
  | .tup xs => some (.tup (cut xs lo hi), S)
  | .ref n => match S[n]? with
    | some (.lst _ xs) => newL (cut xs lo hi) S
    | _ => none
  | _ => none
def revV (a : Val) (S : Store) : R Val := match a with
  | .tup xs => some (.tup xs.reverse, S)
  | .ref n => match S[n]? with
    | some (.lst _ xs) => newL xs.reverse S
    | _ => none
  | _ => none

/-! ### built-in functions, methods -/
inductive Bi where | len | int | abs | max | min | sum | tuple | list | repr | all | any | isi | sorted | dict
  deriving DecidableEq
inductive Mt where | append | pop | extend | get | lcount | tcount | update
  deriving DecidableEq
def intsV : List Val → Option (List Int)
  | [] => some []
  | .int i :: r => match intsV r with
    | some l => some (i :: l)
    | none => none
  | _ => none
def blsV : List Val → Option (List Bool)
  | [] => some []
  | .bl i :: r => match blsV r with
    | some l => some (i :: l)
    | none => none
  | _ => none
def lexL : List Int → List Int → Bool
  | [], [] => false
  | [], _ :: _ => true
  | _ :: _, [] => false
  | x :: xs, y :: ys => if x = y then lexL xs ys else decide (x < y)
/-- put in its place -/
def insL (x : List Int) : List (List Int) → List (List Int)
  | [] => [x]
  | y :: r => if lexL y x = true then y :: insL x r else x :: y :: r
def sortL : List (List Int) → List (List Int)
  | [] => []
  | x :: r => insL x (sortL r)
def tupV : Val → Option (List Int)
  | .tup xs => intsV xs
  | _ => none
/-- the greatest -/
def maxI (x : Int) (xs : List Int) : Int := xs.foldl (fun a b => if b > a then b else a) x
def sortI (l : List Int) : List Int := l.mergeSort fun a b => decide (a ≤ b)
def intKeys : List (Key × Val) → Option (List Int)
  | [] => some []
  | (.inl i, _) :: r => match intKeys r with
    | some l => some (i :: l)
    | none => none
  | _ => none
def keyVal : Key → Val
  | .inl i => .int i
  | .inr x => .str x
def pairV : Val → Option (Key × Val)
  | .tup [k, v] => match keyOf k with
    | some k => some (k, v)
    | none => none
  | _ => none
def mergeV (acc more : List (Key × Val)) : List (Key × Val) := more.foldl (fun a kv => putV a kv.1 kv.2) acc
/-- sorted(..) of tuples of ints, of ints, of a dict's int keys -/
def sortB : List Val → Store → R Val
  | [.ref n], S => match S[n]? with
    | some (.lst _ xs) => match mapO tupV xs with
      | some ls => if (ls.all (fun l => !l.isEmpty) || decide (ls.length < 2)) = true then newL ((sortL ls).map fun l => .tup (l.map .int)) S else none
      | none => match intsV xs with
        | some l => newL ((sortI l).map .int) S
        | none => none
    | some (.dk _ kvs) => match intKeys kvs with
      | some l => if l.length < 64 then newL ((sortI l).map .int) S else none
      | none => none
    | _ => none
  | _, _ => none
def reprOk (d : PyData) : Bool := d.showable && !d.hasDict && decide (d.depth ≤ 30) && decide (d.shown.length ≤ sizeLine)
def reprV (v : Val) (S : Store) : R Val := match dataOf S v with
  | some d => if reprOk d then some (.str d.shown, S) else none
  | none => none
/-- a value's class -/
def tyOf : Val → Store → Option String
  | .non, _ => some "NoneType"
  | .bl _, _ => some "bool"
  | .int _, _ => some "int"
  | .str _, _ => some "str"
  | .tup _, _ => some "tuple"
  | .ref n, S => match S[n]? with
    | some (.lst _ _) => some "list"
    | some (.dk _ _) => some "dict"
    | some (.dt false _) => some "dict"
    | _ => none
  | .ftup _, _ => none
  | .ty _, _ => none
def isT (a b : String) : Option Bool := if ["int", "bool", "str", "tuple", "list", "dict"].contains b then some (a == b || (a == "bool" && b == "int")) else none
/-! the least of data -/
mutual
/-- no list, no dict within -/
def pureV : Val → Bool
  | .non => true
  | .bl _ => true
  | .int _ => true
  | .str _ => true
  | .tup xs => pureVs xs
  | _ => false
def pureVs : List Val → Bool
  | [] => true
  | x :: xs => pureV x && pureVs xs
end
def dOf (S : Store) (v : Val) : PyData := (dataOf S v).getD .none
def isNonD : PyData → Bool
  | .none => true
  | _ => false
def alikeB (ds : List PyData) : Bool := ds.all fun d => (ds.all fun e => PySem.W.alike d e) && !isNonD d
def minB (S : Store) : List Val → Option Val
  | [] => none
  | x :: xs => match mapO (dataOf S) (x :: xs) with
    | some ds => if pureVs (x :: xs) && alikeB ds && decide (PyData.depthAll ds ≤ 60) then some (xs.foldl (fun a y => if PySem.W.dataLt (dOf S y) (dOf S a) then y else a) x) else none
    | none => none
def biV : Bi → List Val → Store → R Val
  | .len, [.tup xs], S => some (.int xs.length, S)
  | .len, [.str z], S => if z.length ≤ sizeLine then some (.int z.length, S) else none
  | .len, [.ref n], S => match S[n]? with
    | some (.lst _ xs) => some (.int xs.length, S)
    | some (.dk false kvs) => some (.int kvs.length, S)
    | _ => none
  | .int, [.int i], S => some (.int i, S)
  | .int, [.bl b], S => some (.int (if b then 1 else 0), S)
  | .abs, [.int i], S => some (.int (if i < 0 then -i else i), S)
  | .max, [.int i, .int j], S => some (.int (if j > i then j else i), S)
  | .min, [.int i, .int j], S => some (.int (if j < i then j else i), S)
  | .max, [.ref n], S => match S[n]? with
    | some (.lst _ xs) => match intsV xs with
      | some (i :: is) => some (.int (maxI i is), S)
      | _ => none
    | _ => none
  | .min, [.tup xs], S => (minB S xs).map fun v => (v, S)
  | .min, [.ref n], S => match S[n]? with
    | some (.lst _ xs) => (minB S xs).map fun v => (v, S)
    | _ => none
  | .sum, [.ref n], S => match S[n]? with
    | some (.lst _ xs) => (intsV xs).map fun l => (.int l.sum, S)
    | _ => none
  | .sum, [.tup xs], S => (intsV xs).map fun l => (.int l.sum, S)
  | .all, [.ref n], S => match S[n]? with
    | some (.lst _ xs) => (blsV xs).map fun l => (.bl (l.all id), S)
    | _ => none
  | .any, [.ref n], S => match S[n]? with
    | some (.lst _ xs) => (blsV xs).map fun l => (.bl (l.any id), S)
    | _ => none
  | .tuple, [.tup xs], S => some (.tup xs, S)
  | .tuple, [.ref n], S => match S[n]? with
    | some (.lst _ xs) => some (.tup xs, S)
    | _ => none
  | .list, [.tup xs], S => newL xs S
  | .list, [.ref n], S => match S[n]? with
    | some (.lst _ xs) => newL xs S
    | some (.dk _ kvs) => newL (kvs.map fun kv => keyVal kv.1) S
    | _ => none
  | .dict, [.ref n], S => match S[n]? with
    | some (.lst _ xs) => match mapO pairV xs with
      | some kvs => some (.ref S.length, S ++ [.dk false (mergeV [] kvs)])
      | none => none
    | some (.dk _ kvs) => some (.ref S.length, S ++ [.dk false kvs])
    | _ => none
  | .repr, [v], S => reprV v S
  | .isi, [v, .ty n], S => match tyOf v S with
    | some t => (isT t n).map fun b => (.bl b, S)
    | none => none
  | .sorted, vs, S => sortB vs S
  | _, _, _ => none
def mtV : Mt → Val → List Val → Store → R Val
  | .append, .ref n, [v], S => match S[n]? with
    | some (.lst false xs) => if xs.length < sizeLine then some (.non, S.set n (.lst false (xs ++ [v]))) else none
    | _ => none
  | .pop, .ref n, [], S => match S[n]? with
    | some (.lst false xs) => match xs[xs.length - 1]? with
      | some v => some (v, S.set n (.lst false xs.dropLast))
      | none => none
    | _ => none
  | .pop, .ref n, [.int i], S => match S[n]? with
    | some (.lst false xs) => match ixN xs.length i with
      | some j => match xs[j]? with
        | some v => if decide (-(2 ^ 63) ≤ i) && decide (i < 2 ^ 63) then some (v, S.set n (.lst false (xs.eraseIdx j))) else none
        | none => none
      | none => none
    | _ => none
  | .update, .ref n, [.ref m], S => if n = m then none else match S[n]?, S[m]? with
    | some (.dk false ks), some (.dk _ more) => if ks.length + more.length ≤ sizeLine then some (.non, S.set n (.dk false (mergeV ks more))) else none
    | _, _ => none
  | .extend, .ref n, [.ref m], S => match S[n]?, S[m]? with
    | some (.lst false xs), some (.lst false ys) => if xs.length + ys.length ≤ sizeLine then some (.non, S.set n (.lst false (xs ++ ys))) else none
    | _, _ => none
  | .lcount, .ref n, [.int k], S => match S[n]? with
    | some (.lst _ xs) => (intsV xs).map fun l => (.int (l.count k : Nat), S)
    | _ => none
  | .tcount, .ftup xs, [.int k], S => (intsV xs).map fun l => (.int (l.count k : Nat), S)
  | .get, .ref n, [k], S => match S[n]? with
    | some o => (dGet o k).map fun r => (r.getD .non, S)
    | none => none
  | .get, .ref n, [k, d], S => match S[n]? with
    | some o => (dGet o k).map fun r => (r.getD d, S)
    | none => none
  | _, _, _, _ => none

/-- the receiver of a method -/
def rcvOk : Mt → Val → Store → Bool
  | .tcount, .ftup _, _ => true
  | .tcount, _, _ => false
  | .get, .ref n, S => match S[n]? with
    | some (.dk false _) => true
    | some (.dt false _) => true
    | _ => false
  | .update, .ref n, S => match S[n]? with
    | some (.dk false _) => true
    | _ => false
  | _, .ref n, S => match S[n]? with
    | some (.lst _ _) => true
    | _ => false
  | _, _, _ => false

/-! ### what is walked -/
inductive Src where | l (n : Nat) | t (xs : List Val)
inductive Itv where
  | seq (s : Src)
  | rng (lo c : Int) (n : Nat)
  | enum (s : Src)
  | zip (ss : List Src)
  | zipn (ss : List Src)
def srcOf : Val → Store → Option Src
  | .tup xs, _ => some (.t xs)
  | .ftup xs, _ => some (.t xs)
  | .ref n, S => match S[n]? with
    | some (.lst _ _) => some (.l n)
    | _ => none
  | _, _ => none
/-- the item at i (some none: it is over) -/
def srcAt : Src → Nat → Store → Option (Option Val)
  | .t xs, i, _ => some xs[i]?
  | .l n, i, S => match S[n]? with
    | some (.lst _ xs) => some xs[i]?
    | _ => none
def zipAt : List Src → Nat → Store → Option (Option (List Val))
  | [], _, _ => some (some [])
  | s :: ss, i, S => match srcAt s i S with
    | none => none
    | some o => match zipAt ss i S with
      | none => none
      | some p => some (match o, p with
        | some v, some vs => some (v :: vs)
        | _, _ => none)
def itAt : Itv → Nat → Store → Option (Option Val)
  | .seq s, i, S => srcAt s i S
  | .rng lo c n, i, _ => some (if i < n then some (.int (lo + (i : Nat) * c)) else none)
  | .enum s, i, S => match srcAt s i S with
    | none => none
    | some o => some (o.map fun v => .tup [.int (i : Nat), v])
  | .zip ss, i, S => match zipAt ss i S with
    | none => none
    | some o => some (o.map .tup)
  | .zipn ss, i, S => match zipAt ss i S with
    | none => none
    | some o => some (o.map .ftup)
def srcLen : Src → Store → Nat
  | .t xs, _ => xs.length
  | .l n, S => match S[n]? with
    | some (.lst _ xs) => xs.length
    | _ => 0
def zipLen : List Src → Store → Nat
  | [], _ => 0
  | [s], S => srcLen s S
  | s :: ss, S => min (srcLen s S) (zipLen ss S)
def itLen : Itv → Store → Nat
  | .seq s, S => srcLen s S
  | .rng _ _ n, _ => n
  | .enum s, S => srcLen s S
  | .zip ss, S => zipLen ss S
  | .zipn ss, S => zipLen ss S

/-! ### the language -/
mutual
inductive X where
  | slot (i : Nat) | k (v : Val)
  | bin (op : Bop) (a b : X) | neg (a : X)
  | cmp (op : Cop) (a b : X) | cmp2 (op op' : Cop) (a b c : X)
  | and (a b : X) | or (a b : X) | not (a : X)
  | ife (c a b : X)
  | tup (es : Xs) | lst (es : Xs) | dict (ks : List Val) (vs : Xs) | dict1 (k v : X)
  | idx (a b : X) | sli (a lo hi : X) | rev (a : X)
  | call (f : Nat) (args : Xs) | bi (b : Bi) (args : Xs) | mt (m : Mt) (o : X) (args : Xs)
  | lc (elt : X) (t : T) (it : I) (c : X) (own : List Nat)
  | lrg (args : Xs) | dc (kx vx : X) (t : T) (it : I) (c : X) (own : List Nat)
inductive Xs where
  | nil | cons (x : X) (xs : Xs)
inductive T where
  | slot (i : Nat) | tup (ts : Ts) | sub (o i : X)
inductive Ts where
  | nil | cons (t : T) (ts : Ts)
inductive I where
  | ex (x : X) | rng (args : Xs) | enum (x : X) | zip (xs : Xs) | zipn (xs : Xs)
end
mutual
inductive Sx where
  | asg (t : T) (e : X) | ex (e : X) | ret (e : X) | ife (c : X) (a b : B) | loop (t : T) (it : I) (body : B) | whl (c : X) (body : B) | brk | pas
inductive B where
  | nil | cons (s : Sx) (b : B)
end
structure FD where
  np : Nat
  ns : Nat
  body : B
abbrev CF := Nat → List Val → Store → R Val

def wipeE (ρ : Env) : List Nat → Env
  | [] => ρ
  | v :: vs => (wipeE ρ vs).set v none
def X.isNon : X → Bool
  | .k .non => true
  | _ => false
/-- a comprehension's turns: f gives an item's value, or none where the test fails -/
def lcGo (f : Val → Store → R (Option Val)) (J : Itv) : Nat → Nat → Nat → Store → R (List Val)
  | 0, _, _, _ => none
  | fu + 1, i, n, S => match itAt J i S with
    | none => none
    | some none => some ([], S)
    | some (some v) => bnd (f v S) fun o S1 => match o with
      | none => lcGo f J fu (i + 1) n S1
      | some y => if n < sizeLine then bnd (lcGo f J fu (i + 1) (n + 1) S1) fun ys S2 => some (y :: ys, S2) else none
def rngOk (i : Int) : Bool := decide (-(2 ^ 62) ≤ i) && decide (i < 2 ^ 62)
def rngV : List Val → Option Itv
  | [.int j] => if rngOk j then some (.rng 0 1 j.toNat) else none
  | [.int i, .int j] => if rngOk i && rngOk j then some (.rng i 1 (j - i).toNat) else none
  | _ => none
def dispK : List Val → List Val → Option (List (Key × Val))
  | [], [] => some []
  | k :: ks, v :: r => match keyOf k, dispK ks r with
    | some k, some l => some ((k, v) :: l)
    | _, _ => none
  | _, _ => none
def dispV (ks vs : List Val) (S : Store) : R Val := match dispK ks vs with
  | some kvs => if kvs.length ≤ 15 then some (.ref S.length, S ++ [.dk false (kvs.foldl (fun acc kv => putV acc kv.1 kv.2) [])]) else none
  | none => none
def setV : Val → Val → Val → Store → Option Store
  | .ref n, i, v, S => match S[n]? with
    | some (.lst false xs) => match i with
      | .int k => match ixN xs.length k with
        | some j => some (S.set n (.lst false (xs.set j v)))
        | none => none
      | _ => none
    | some o => match dPut o i v with
      | some o' => some (S.set n o')
      | none => none
    | none => none
  | _, _, _, _ => none
mutual
def ev (cf : CF) : X → Env → Store → R Val
  | .slot i, ρ, S => match ρ[i]? with
    | some (some v) => some (v, S)
    | _ => none
  | .k v, _, S => some (v, S)
  | .bin op a b, ρ, S => bnd (ev cf a ρ S) fun x S1 => bnd (ev cf b ρ S1) fun y S2 => binV op x y S2
  | .neg a, ρ, S => bnd (ev cf a ρ S) fun x S1 => match x with
    | .int i => some (.int (-i), S1)
    | _ => none
  | .cmp op a b, ρ, S => bnd (ev cf a ρ S) fun x S1 => bnd (ev cf b ρ S1) fun y S2 => match cmpV op x y S2 with
    | some c => some (.bl c, S2)
    | none => none
  | .cmp2 op op' a b c, ρ, S => bnd (ev cf a ρ S) fun x S1 => bnd (ev cf b ρ S1) fun y S2 => match cmpV op x y S2 with
    | some true => bnd (ev cf c ρ S2) fun z S3 => match cmpV op' y z S3 with
      | some c => some (.bl c, S3)
      | none => none
    | some false => some (.bl false, S2)
    | none => none
  | .and a b, ρ, S => bnd (ev cf a ρ S) fun x S1 => match x with
    | .bl true => ev cf b ρ S1
    | .bl false => some (.bl false, S1)
    | _ => none
  | .or a b, ρ, S => bnd (ev cf a ρ S) fun x S1 => match x with
    | .bl true => some (.bl true, S1)
    | .bl false => ev cf b ρ S1
    | _ => none
  | .not a, ρ, S => bnd (ev cf a ρ S) fun x S1 => match x with
    | .bl b => some (.bl (!b), S1)
    | _ => none
  | .ife c a b, ρ, S => bnd (ev cf c ρ S) fun x S1 => match x with
    | .bl true => ev cf a ρ S1
    | .bl false => ev cf b ρ S1
    | _ => none
  | .tup es, ρ, S => bnd (evs cf es ρ S) fun vs S1 => newT vs S1
  | .lst es, ρ, S => bnd (evs cf es ρ S) fun vs S1 => newL vs S1
  | .dict ks es, ρ, S => bnd (evs cf es ρ S) fun vs S1 => dispV ks vs S1
  | .dict1 k v, ρ, S => bnd (ev cf k ρ S) fun x S1 => bnd (ev cf v ρ S1) fun y S2 => match keyOf x with
    | some k => some (.ref S2.length, S2 ++ [.dk false [(k, y)]])
    | none => none
  | .idx a b, ρ, S => bnd (ev cf a ρ S) fun x S1 => bnd (ev cf b ρ S1) fun y S2 => match ixV x y S2 with
    | some v => some (v, S2)
    | none => none
  | .sli a lo hi, ρ, S => bnd (ev cf a ρ S) fun x S1 => bnd (ev cf lo ρ S1) fun l S2 => bnd (ev cf hi ρ S2) fun h S3 => match part lo.isNon l, part hi.isNon h with
    | some l, some h => slV x l h S3
    | _, _ => none
  | .rev a, ρ, S => bnd (ev cf a ρ S) fun x S1 => revV x S1
  | .call f args, ρ, S => bnd (evs cf args ρ S) fun vs S1 => cf f vs S1
  | .bi b args, ρ, S => bnd (evs cf args ρ S) fun vs S1 => biV b vs S1
  | .mt m o args, ρ, S => bnd (ev cf o ρ S) fun x S1 => if rcvOk m x S1 then bnd (evs cf args ρ S1) fun vs S2 => mtV m x vs S2 else none
  | .lc elt t it c own, ρ, S => bnd (evI cf it ρ S) fun J S1 =>
      bnd (lcGo (fun v S2 => bnd (asg cf t v (wipeE ρ own) S2) fun ρ' S3 => bnd (ev cf c ρ' S3) fun b S4 => match b with
        | .bl true => bnd (ev cf elt ρ' S4) fun y S5 => some (some y, S5)
        | .bl false => some (none, S4)
        | _ => none) J (itLen J S1 + 1) 0 0 S1) fun ys S2 => some (.ref S2.length, S2 ++ [.lst false ys])
  | .lrg args, ρ, S => bnd (evs cf args ρ S) fun vs S1 => match rngV vs with
    | some (.rng lo _ n) => newL ((List.range n).map fun i : Nat => .int (lo + (i : Int))) S1
    | _ => none
  | .dc kx vx t it c own, ρ, S => bnd (evI cf it ρ S) fun J S1 =>
      bnd (lcGo (fun v S2 => bnd (asg cf t v (wipeE ρ own) S2) fun ρ' S3 => bnd (ev cf c ρ' S3) fun b S4 => match b with
        | .bl true => bnd (bnd (ev cf kx ρ' S4) fun x S5 => bnd (ev cf vx ρ' S5) fun y S6 => some (.tup [x, y], S6)) fun y S5 => some (some y, S5)
        | .bl false => some (none, S4)
        | _ => none) J (itLen J S1 + 1) 0 0 S1) fun ys S2 => match mapO pairV ys with
          | some kvs => some (.ref S2.length, S2 ++ [.dk false (mergeV [] kvs)])
          | none => none
def evs (cf : CF) : Xs → Env → Store → R (List Val)
  | .nil, _, S => some ([], S)
  | .cons x xs, ρ, S => bnd (ev cf x ρ S) fun v S1 => bnd (evs cf xs ρ S1) fun vs S2 => some (v :: vs, S2)
def evI (cf : CF) : I → Env → Store → R Itv
  | .ex x, ρ, S => bnd (ev cf x ρ S) fun v S1 => match srcOf v S1 with
    | some s => some (.seq s, S1)
    | none => none
  | .rng args, ρ, S => bnd (evs cf args ρ S) fun vs S1 => match rngV vs with
    | some J => some (J, S1)
    | none => none
  | .enum x, ρ, S => bnd (ev cf x ρ S) fun v S1 => match srcOf v S1 with
    | some s => some (.enum s, S1)
    | none => none
  | .zip xs, ρ, S => bnd (evs cf xs ρ S) fun vs S1 => match mapO (fun v => srcOf v S1) vs with
    | some ss => some (.zip ss, S1)
    | none => none
  | .zipn xs, ρ, S => bnd (evs cf xs ρ S) fun vs S1 => match mapO (fun v => srcOf v S1) vs with
    | some ss => some (.zipn ss, S1)
    | none => none
def asg (cf : CF) : T → Val → Env → Store → R Env
  | .slot i, v, ρ, S => some (ρ.set i (some v), S)
  | .tup ts, v, ρ, S => match v with
    | .tup vs => asgs cf ts vs ρ S
    | .ref n => match S[n]? with
      | some (.lst _ vs) => asgs cf ts vs ρ S
      | _ => none
    | _ => none
  | .sub o i, v, ρ, S => bnd (ev cf o ρ S) fun x S1 => bnd (ev cf i ρ S1) fun y S2 => match setV x y v S2 with
    | some S3 => some (ρ, S3)
    | none => none
def asgs (cf : CF) : Ts → List Val → Env → Store → R Env
  | .nil, [], ρ, S => some (ρ, S)
  | .cons t ts, v :: vs, ρ, S => bnd (asg cf t v ρ S) fun ρ1 S1 => asgs cf ts vs ρ1 S1
  | _, _, _, _ => none
end

inductive Flow where | nx | ret (v : Val) | bk
abbrev R3 := Option (Flow × Env × Store)
def loopGo (set : Val → Env → Store → R Env) (body : Env → Store → R3) (J : Itv) : Nat → Nat → Env → Store → R3
  | 0, _, _, _ => none
  | fu + 1, i, ρ, S => match itAt J i S with
    | none => none
    | some none => some (.nx, ρ, S)
    | some (some v) => bnd (set v ρ S) fun ρ1 S1 => match body ρ1 S1 with
      | none => none
      | some (.nx, ρ2, S2) => loopGo set body J fu (i + 1) ρ2 S2
      | some (.bk, ρ2, S2) => some (.nx, ρ2, S2)
      | some (.ret v, ρ2, S2) => some (.ret v, ρ2, S2)
def whileGo (test : Env → Store → R Val) (body : Env → Store → R3) : Nat → Env → Store → R3
  | 0, _, _ => none
  | fu + 1, ρ, S => bnd (test ρ S) fun b S1 => match b with
    | .bl true => match body ρ S1 with
      | none => none
      | some (.nx, ρ2, S2) => whileGo test body fu ρ2 S2
      | some (.bk, ρ2, S2) => some (.nx, ρ2, S2)
      | some (.ret v, ρ2, S2) => some (.ret v, ρ2, S2)
    | .bl false => some (.nx, ρ, S1)
    | _ => none
mutual
def ex (cf : CF) (fu : Nat) : Sx → Env → Store → R3
  | .asg t e, ρ, S => bnd (ev cf e ρ S) fun v S1 => bnd (asg cf t v ρ S1) fun ρ1 S2 => some (.nx, ρ1, S2)
  | .ex e, ρ, S => bnd (ev cf e ρ S) fun _ S1 => some (.nx, ρ, S1)
  | .ret e, ρ, S => bnd (ev cf e ρ S) fun v S1 => some (.ret v, ρ, S1)
  | .ife c a b, ρ, S => bnd (ev cf c ρ S) fun x S1 => match x with
    | .bl true => exs cf fu a ρ S1
    | .bl false => exs cf fu b ρ S1
    | _ => none
  | .loop t it body, ρ, S => bnd (evI cf it ρ S) fun J S1 => loopGo (asg cf t) (exs cf fu body) J (itLen J S1 + 1) 0 ρ S1
  | .whl c body, ρ, S => whileGo (ev cf c) (exs cf fu body) fu ρ S
  | .brk, ρ, S => some (.bk, ρ, S)
  | .pas, ρ, S => some (.nx, ρ, S)
def exs (cf : CF) (fu : Nat) : B → Env → Store → R3
  | .nil, ρ, S => some (.nx, ρ, S)
  | .cons s b, ρ, S => match ex cf fu s ρ S with
    | none => none
    | some (.nx, ρ1, S1) => exs cf fu b ρ1 S1
    | some (.bk, ρ1, S1) => some (.bk, ρ1, S1)
    | some (.ret v, ρ1, S1) => some (.ret v, ρ1, S1)
end
def startE (F : FD) (args : List Val) : Env := args.map some ++ List.replicate (F.ns - F.np) none
def runB (cf : CF) (fu : Nat) (F : FD) (args : List Val) (S : Store) : R Val := match exs cf fu F.body (startE F args) S with
  | some (.ret v, _, S') => some (v, S')
  | some (.nx, _, S') => some (.non, S')
  | _ => none
def callF (tbl : List FD) (fu : Nat) : Nat → CF
  | 0, _, _, _ => none
  | d + 1, f, args, S => match tbl[f]? with
    | some F => if args.length = F.np then runB (callF tbl fu d) fu F args S else none
    | none => none
end Rf

/-! Rf1: how values and stores stand in the abstract heap. -/
namespace Rf
open PySem PySem.Spec PyProof.Rows L2

mutual
inductive RV (m : List Addr) (H : Hp) : Val → V → Prop where
  | non : RV m H .non .non
  | bl (b : Bool) : RV m H (.bl b) (.bl b)
  | int (i : Int) : RV m H (.int i) (.int i)
  | str (x : Str) : RV m H (.str x) (.str x)
  | ty (n : String) : RV m H (.ty n) (.ty n)
  | ref {n : Nat} {a : Addr} : m[n]? = some a → RV m H (.ref n) (.ref a)
  | tup {xs : List Val} {a : Addr} {ys : List V} : H a = some (.tup ys) → RVs m H xs ys → RV m H (.tup xs) (.ref a)
  | ftup {xs : List Val} {a : Addr} {ys : List V} {arr : Array Value} : H a = some (.frz { cls := .type "tuple", data := .seq arr } (.tup ys)) → (∀ n : Nat, m[n]? = some a → n = 0) → RVs m H xs ys → RV m H (.ftup xs) (.ref a)
inductive RVs (m : List Addr) (H : Hp) : List Val → List V → Prop where
  | nil : RVs m H [] []
  | cons {v : Val} {vs : List Val} {x : V} {xs : List V} : RV m H v x → RVs m H vs xs → RVs m H (v :: vs) (x :: xs)
end
/-- a world after another -/
structure Ext (m : List Addr) (H : Hp) (m' : List Addr) (H' : Hp) : Prop where
  pre : ∃ t, m' = m ++ t ∧ ∀ a ∈ t, H a = none
  tups : ∀ a ys, H a = some (.tup ys) → H' a = some (.tup ys)
  keep : ∀ a o, H a = some o → (∀ n : Nat, m[n]? = some a → n = 0) → H' a = some o
  there : ∀ a, H' a = none → H a = none
theorem Ext.refl (m : List Addr) (H : Hp) : Ext m H m H := ⟨⟨[], by simp, by simp⟩, fun _ _ h => h, fun _ _ h _ => h, fun _ h => h⟩
theorem Ext.trans {m m1 m2 : List Addr} {H H1 H2 : Hp} (a : Ext m H m1 H1) (b : Ext m1 H1 m2 H2) : Ext m H m2 H2 := by
  obtain ⟨t, e, n⟩ := a.pre
  obtain ⟨t2, e2, n2⟩ := b.pre
  refine ⟨⟨t ++ t2, by rw [e2, e, List.append_assoc], fun c hc => ?_⟩, fun c ys h => b.tups c ys (a.tups c ys h), fun c o h hc => ?_, fun c h => a.there c (b.there c h)⟩
  · rcases List.mem_append.mp hc with h | h
    · exact n c h
    · exact a.there c (n2 c h)
  · refine b.keep c o (a.keep c o h hc) fun k hm => ?_
    rw [e] at hm
    by_cases hk : k < m.length
    · rw [List.getElem?_append_left hk] at hm; exact hc k hm
    · rw [List.getElem?_append_right (by omega)] at hm
      rw [n c (List.mem_of_getElem? hm)] at h; cases h
theorem Ext.get {m m1 : List Addr} {H H1 : Hp} (e : Ext m H m1 H1) {n : Nat} {a : Addr} (h : m[n]? = some a) : m1[n]? = some a := by
  obtain ⟨t, rfl, _⟩ := e.pre
  rw [List.getElem?_append_left (List.getElem?_eq_some_iff.mp h).1]
  exact h
theorem Ext.out {m m1 : List Addr} {H H1 : Hp} (e : Ext m H m1 H1) {a : Addr} {o : HO} (h : H a = some o) (hc : ∀ n : Nat, m[n]? = some a → n = 0) : ∀ n : Nat, m1[n]? = some a → n = 0 := by
  intro n hn
  obtain ⟨t, hm, hf⟩ := e.pre
  rw [hm] at hn
  by_cases hlt : n < m.length
  · rw [List.getElem?_append_left hlt] at hn; exact hc n hn
  · rw [List.getElem?_append_right (by omega)] at hn
    have := hf a (List.mem_of_getElem? hn)
    rw [h] at this; cases this
mutual
theorem RV.mono {m m1 : List Addr} {H H1 : Hp} (e : Ext m H m1 H1) : ∀ {v : Val} {x : V}, RV m H v x → RV m1 H1 v x
  | _, _, .non => .non
  | _, _, .bl b => .bl b
  | _, _, .int i => .int i
  | _, _, .str x => .str x
  | _, _, .ty n => .ty n
  | _, _, .ref h => .ref (e.get h)
  | _, _, .tup h r => .tup (e.tups _ _ h) (RVs.mono e r)
  | _, _, .ftup h hc r => .ftup (e.keep _ _ h hc) (e.out h hc) (RVs.mono e r)
theorem RVs.mono {m m1 : List Addr} {H H1 : Hp} (e : Ext m H m1 H1) : ∀ {v : List Val} {x : List V}, RVs m H v x → RVs m1 H1 v x
  | _, _, .nil => .nil
  | _, _, .cons a b => .cons (RV.mono e a) (RVs.mono e b)
end
section
variable {m : List Addr} {H : Hp}
theorem RVs.length : ∀ {vs : List Val} {xs : List V}, RVs m H vs xs → vs.length = xs.length
  | _, _, .nil => rfl
  | _, _, .cons _ b => congrArg (· + 1) (RVs.length b)
theorem RVs.append : ∀ {vs ws : List Val} {xs ys : List V}, RVs m H vs xs → RVs m H ws ys → RVs m H (vs ++ ws) (xs ++ ys)
  | _, _, _, _, .nil, r => r
  | _, _, _, _, .cons a b, r => .cons a (RVs.append b r)
theorem RVs.get : ∀ {vs : List Val} {xs : List V} {i : Nat} {v : Val}, RVs m H vs xs → vs[i]? = some v → ∃ x, xs[i]? = some x ∧ RV m H v x
  | _, _, i, _, .nil, h => by simp at h
  | _, _, 0, _, .cons a _, h => by
    simp at h; subst h; exact ⟨_, by simp, a⟩
  | _, _, i + 1, _, .cons _ b, h => by
    obtain ⟨x, h1, h2⟩ := RVs.get (i := i) b (by simpa using h)
    exact ⟨x, by simpa using h1, h2⟩
theorem RVs.getN {vs : List Val} {xs : List V} {i : Nat} (r : RVs m H vs xs) (h : vs[i]? = none) : xs[i]? = none := by
  rw [List.getElem?_eq_none_iff] at h ⊢
  rw [← r.length]; exact h
theorem RVs.take : ∀ {vs : List Val} {xs : List V} (n : Nat), RVs m H vs xs → RVs m H (vs.take n) (xs.take n)
  | _, _, 0, _ => .nil
  | _, _, _ + 1, .nil => .nil
  | _, _, n + 1, .cons a b => .cons a (RVs.take n b)
theorem RVs.drop : ∀ {vs : List Val} {xs : List V} (n : Nat), RVs m H vs xs → RVs m H (vs.drop n) (xs.drop n)
  | _, _, 0, r => r
  | _, _, _ + 1, .nil => .nil
  | _, _, n + 1, .cons _ b => RVs.drop n b
theorem RVs.set : ∀ {vs : List Val} {xs : List V} (n : Nat) {v : Val} {x : V}, RVs m H vs xs → RV m H v x → RVs m H (vs.set n v) (xs.set n x)
  | _, _, _, _, _, .nil, _ => .nil
  | _, _, 0, _, _, .cons _ b, r => .cons r b
  | _, _, n + 1, _, _, .cons a b, r => .cons a (RVs.set n b r)
theorem RVs.reverse {vs : List Val} {xs : List V} (r : RVs m H vs xs) : RVs m H vs.reverse xs.reverse := by
  have h : ∀ {vs : List Val} {xs : List V}, RVs m H vs xs → RVs m H vs.reverse xs.reverse := by
    intro vs
    induction vs with
    | nil => intro xs r; cases r; exact .nil
    | cons v vs ih =>
      intro xs r
      cases r with
      | cons a b => rw [List.reverse_cons, List.reverse_cons]; exact (ih b).append (.cons a .nil)
  exact h r
theorem RVs.dropLast {vs : List Val} {xs : List V} (r : RVs m H vs xs) : RVs m H vs.dropLast xs.dropLast := by
  rw [List.dropLast_eq_take, List.dropLast_eq_take, r.length]
  exact r.take _
theorem RVs.eraseIdx : ∀ {vs : List Val} {xs : List V} (n : Nat), RVs m H vs xs → RVs m H (vs.eraseIdx n) (xs.eraseIdx n)
  | _, _, _, .nil => .nil
  | _, _, 0, .cons _ b => b
  | _, _, n + 1, .cons a b => .cons a (RVs.eraseIdx n b)
theorem RVs.flatten_replicate {vs : List Val} {xs : List V} (r : RVs m H vs xs) (k : Nat) : RVs m H (List.replicate k vs).flatten (List.replicate k xs).flatten := by
  induction k with
  | zero => exact .nil
  | succ k ih => rw [List.replicate_succ, List.replicate_succ, List.flatten_cons, List.flatten_cons]; exact r.append ih
theorem RVs.cut {vs : List Val} {xs : List V} (r : RVs m H vs xs) (lo hi : Option Int) : RVs m H (cut vs lo hi) (cutV xs lo hi) := by
  unfold Rf.cut cutV
  rw [r.length]
  exact (r.drop _).take _
theorem RVs.at {vs : List Val} {xs : List V} {i : Int} {v : Val} (r : RVs m H vs xs) (h : atI vs i = some v) : ∃ x, atI xs i = some x ∧ RV m H v x := by
  unfold atI at h ⊢
  rw [← r.length]
  cases e : ixN vs.length i with
  | none => rw [e] at h; cases h
  | some j => rw [e] at h; exact r.get h
end
/-- a dict's pairs -/
inductive RK {κ : Type} (m : List Addr) (H : Hp) : List (κ × Val) → List (κ × V) → Prop where
  | nil : RK m H [] []
  | cons {k : κ} {v : Val} {vs : List (κ × Val)} {x : V} {xs : List (κ × V)} : RV m H v x → RK m H vs xs → RK m H ((k, v) :: vs) ((k, x) :: xs)
theorem RK.mono {κ : Type} {m m1 : List Addr} {H H1 : Hp} (e : Ext m H m1 H1) : ∀ {v : List (κ × Val)} {x : List (κ × V)}, RK m H v x → RK m1 H1 v x
  | _, _, .nil => .nil
  | _, _, .cons a b => .cons (a.mono e) (RK.mono e b)
theorem RK.length {κ : Type} {m : List Addr} {H : Hp} : ∀ {v : List (κ × Val)} {x : List (κ × V)}, RK m H v x → v.length = x.length
  | _, _, .nil => rfl
  | _, _, .cons _ b => congrArg (· + 1) (RK.length b)
theorem RK.look {κ : Type} [DecidableEq κ] {m : List Addr} {H : Hp} {k : κ} : ∀ {v : List (κ × Val)} {x : List (κ × V)}, RK m H v x →
    (getK v k = none ∧ valV x k = none) ∨ ∃ a b, getK v k = some a ∧ valV x k = some b ∧ RV m H a b
  | _, _, .nil => .inl ⟨rfl, rfl⟩
  | _, _, .cons (k := k') (v := v) (x := x) (vs := vs) (xs := xs) a b => by
    by_cases e : k' = k
    · exact .inr ⟨v, x, by simp [getK, e], valV_pos e, a⟩
    · rcases RK.look (k := k) b with ⟨h1, h2⟩ | ⟨p, q, h1, h2, h3⟩
      · exact .inl ⟨by simp [getK, e, h1], by rw [valV_neg e]; exact h2⟩
      · exact .inr ⟨p, q, by simp [getK, e, h1], by rw [valV_neg e]; exact h2, h3⟩
theorem RK.append {κ : Type} {m : List Addr} {H : Hp} : ∀ {v w : List (κ × Val)} {x y : List (κ × V)}, RK m H v x → RK m H w y → RK m H (v ++ w) (x ++ y)
  | _, _, _, _, .nil, r => r
  | _, _, _, _, .cons a b, r => .cons a (RK.append b r)
theorem RK.repl {κ : Type} [DecidableEq κ] {m : List Addr} {H : Hp} {k : κ} {p : Val} {q : V} (r : RV m H p q) : ∀ {v : List (κ × Val)} {x : List (κ × V)}, RK m H v x →
    RK m H (replK k p v) (x.map fun kv => if kv.1 = k then (kv.1, q) else kv)
  | _, _, .nil => .nil
  | _, _, .cons (k := k') a b => by
    rw [List.map_cons]
    by_cases e : k' = k
    · simp only [replK, e, if_true]; exact .cons r (RK.repl r b)
    · simp only [replK, e, if_false]; exact .cons a (RK.repl r b)
theorem RK.put {κ : Type} [DecidableEq κ] {m : List Addr} {H : Hp} {k : κ} {p : Val} {q : V} {v : List (κ × Val)} {x : List (κ × V)} (r : RV m H p q) (h : RK m H v x) : RK m H (putV v k p) (putK x k q) := by
  unfold putV putK
  rw [valV_any]
  rcases h.look (k := k) with ⟨h1, h2⟩ | ⟨a, b, h1, h2, _⟩
  · rw [h1, h2]; simp only [Option.isSome_none, Bool.false_eq_true, if_false]; exact h.append (.cons r .nil)
  · rw [h1, h2]; simp only [Option.isSome_some, if_true]; exact h.repl r

/-- what stands for an object -/
def RO (K : PySem.W.Frag) (m : List Addr) (H : Hp) (a : Addr) : Obj → Prop
  | .lst false xs => ∃ ys, H a = some (.lst ys) ∧ RVs m H xs ys
  | .lst true xs => ∃ ys, SqL K H a ys ∧ RVs m H xs ys
  | .dk false ks => ∃ ys, H a = some (.dK ys) ∧ RK m H ks ys
  | .dk true ks => ∃ o ys, H a = some (.frz o (.dK ys)) ∧ RK m H ks ys
  | .dt false ks => ∃ ys, H a = some (.dT ys) ∧ RK m H ks ys
  | .dt true ks => ∃ o ys, H a = some (.frz o (.dT ys)) ∧ RK m H ks ys
def isOpen : Obj → Bool
  | .lst lk _ => !lk
  | .dk lk _ => !lk
  | .dt lk _ => !lk
/-- a list of ints that is an object of the module (the script may be one) -/
def KO (K : PySem.W.Frag) (ns : List Int) (a : Addr) : Prop :=
  ∃ (o : PySem.Obj) (its : Array Value) (k : Nat), K.lookup a = some o ∧ o.cls = .type "list" ∧ o.dict = none ∧ o.data = .seq its k ∧ its.size ≤ sizeLine ∧ Vals (ns.map V.int) its.toList
def KF (K : PySem.W.Frag) (S : Store) (n : Nat) (a : Addr) : Prop := n = 0 ∧ ∃ ns : List Int, S[n]? = some (.lst true (ns.map .int)) ∧ KO K ns a
structure RS (K : PySem.W.Frag) (m : List Addr) (S : Store) (H : Hp) : Prop where
  len : m.length = S.length
  obj : ∀ (n : Nat) (o : Obj) (a : Addr), S[n]? = some o → m[n]? = some a → RO K m H a o
  kf : ∀ (n : Nat) (a : Addr), m[n]? = some a → H a = none → KF K S n a
  nd : ∀ (n n' : Nat) (a : Addr), n ≠ n' → m[n]? = some a → m[n']? = some a → KF K S n a ∨ KF K S n' a
  s0 : ∃ (ns : List Int) (a : Addr), S[0]? = some (.lst true (ns.map .int)) ∧ m[0]? = some a ∧ (KO K ns a ∨ ∃ o xs, H a = some (.frz o xs))
theorem sq_same {K : PySem.W.Frag} {H H' : Hp} {a : Addr} {xs : List V} (e : H' a = H a) (h : SqL K H a xs) : SqL K H' a xs := by
  rcases h with (h | ⟨o, h⟩) | h
  · exact .inl (.inl (e.trans h))
  · exact .inl (.inr ⟨o, e.trans h⟩)
  · exact .inr h
theorem rvs_ints {m : List Addr} {H : Hp} : ∀ ns : List Int, RVs m H (ns.map .int) (ns.map V.int)
  | [] => .nil
  | n :: ns => .cons (.int n) (rvs_ints ns)
section
variable {K : PySem.W.Frag} {m m1 : List Addr} {S : Store} {H H1 : Hp}
theorem RO.mono (e : Ext m H m1 H1) {a : Addr} (ha : H1 a = H a) : ∀ {o : Obj}, RO K m H a o → RO K m1 H1 a o
  | .lst false _, ⟨ys, h, r⟩ => ⟨ys, ha.trans h, r.mono e⟩
  | .lst true _, ⟨ys, h, r⟩ => ⟨ys, sq_same ha h, r.mono e⟩
  | .dk false _, ⟨ys, h, r⟩ => ⟨ys, ha.trans h, r.mono e⟩
  | .dk true _, ⟨o, ys, h, r⟩ => ⟨o, ys, ha.trans h, r.mono e⟩
  | .dt false _, ⟨ys, h, r⟩ => ⟨ys, ha.trans h, r.mono e⟩
  | .dt true _, ⟨o, ys, h, r⟩ => ⟨o, ys, ha.trans h, r.mono e⟩
theorem KF.ro {n : Nat} {a : Addr} {o : Obj} (k : KF K S n a) (h : S[n]? = some o) : RO K m H a o := by
  obtain ⟨_, ns, h1, ob, its, k, z⟩ := k
  rw [h] at h1
  cases h1
  exact ⟨_, .inr ⟨ob, its, k, z⟩, rvs_ints ns⟩
theorem RS.get (s : RS K m S H) {n : Nat} {o : Obj} (h : S[n]? = some o) : ∃ a, m[n]? = some a ∧ RO K m H a o := by
  have hn : n < m.length := by rw [s.len]; exact (List.getElem?_eq_some_iff.mp h).1
  exact ⟨m[n], List.getElem?_eq_getElem hn, s.obj n o _ h (List.getElem?_eq_getElem hn)⟩
theorem RS.at (s : RS K m S H) {n : Nat} {o : Obj} {a : Addr} (h : S[n]? = some o) (hm : m[n]? = some a) : RO K m H a o := s.obj n o a h hm
theorem ext_new {p : Addr} {ho : HO} (hp : H p = none) : Ext m H m (upd H p ho) :=
  ⟨⟨[], by simp, by simp⟩, fun a ys h => by rw [upd_ne (ne_of_none h hp)]; exact h, fun a o h _ => by rw [upd_ne (ne_of_none h hp)]; exact h, fun a h => by
    unfold upd at h; split at h
    · cases h
    · exact h⟩
theorem ext_add {p : Addr} (e : Ext m H m H1) (hp : H p = none) : Ext m H (m ++ [p]) H1 := by
  refine ⟨⟨[p], rfl, fun a ha => ?_⟩, e.tups, e.keep, e.there⟩
  rw [List.mem_singleton.mp ha]; exact hp
theorem ext_add2 {p : Addr} (e : Ext m H m1 H1) (hp : H p = none) : Ext m H (m1 ++ [p]) H1 := by
  obtain ⟨t, e1, n⟩ := e.pre
  refine ⟨⟨t ++ [p], by rw [e1, List.append_assoc], fun a ha => ?_⟩, e.tups, e.keep, e.there⟩
  rcases List.mem_append.mp ha with h | h
  · exact n a h
  · rw [List.mem_singleton.mp h]; exact hp
theorem KF.more {n : Nat} {a : Addr} (k : KF K S n a) (T : Store) : KF K (S ++ T) n a := by
  obtain ⟨h0, ns, h1, z⟩ := k
  exact ⟨h0, ns, by rw [List.getElem?_append_left (List.getElem?_eq_some_iff.mp h1).1]; exact h1, z⟩
theorem RS.z (s : RS K m S H) : ∃ o, S[0]? = some o ∧ isOpen o = false := let ⟨_, _, h, _⟩ := s.s0; ⟨_, h, rfl⟩
theorem s0_laid (s : RS K m S H) {p : Addr} {ho : HO} (hp : H p = none) : ∃ (ns : List Int) (a : Addr), S[0]? = some (.lst true (ns.map .int)) ∧ m[0]? = some a ∧ (KO K ns a ∨ ∃ o xs, upd H p ho a = some (.frz o xs)) := by
  obtain ⟨ns, a, h1, h2, h3⟩ := s.s0
  refine ⟨ns, a, h1, h2, h3.imp id fun ⟨o, xs, e⟩ => ⟨o, xs, ?_⟩⟩
  rw [upd_ne (ne_of_none e hp)]; exact e
/-- a tuple is laid (nothing of the store's) -/
theorem RS.laidT (s : RS K m S H) {p : Addr} {ho : HO} (hp : H p = none) : RS K m S (upd H p ho) := by
  have e := ext_new (m := m) (ho := ho) hp
  refine ⟨s.len, fun n o a h1 h2 => ?_, fun n a h1 h2 => s.kf n a h1 (e.there a h2), s.nd, s0_laid s hp⟩
  by_cases ha : a = p
  · subst ha
    exact (s.kf n a h2 hp).ro h1
  · exact (s.obj n o a h1 h2).mono e (upd_ne ha)
/-- an object is laid -/
theorem RS.alloc (s : RS K m S H) {p : Addr} {ho : HO} {o : Obj} (hp : H p = none) (new : RO K (m ++ [p]) (upd H p ho) p o) : RS K (m ++ [p]) (S ++ [o]) (upd H p ho) := by
  have e0 := ext_new (m := m) (ho := ho) hp
  have e := ext_add e0 hp
  have old : ∀ {n : Nat} {a : Addr}, (m ++ [p])[n]? = some a → (n < m.length ∧ m[n]? = some a) ∨ (n = m.length ∧ a = p) := fun {n a} h => by
    by_cases hn : n < m.length
    · rw [List.getElem?_append_left hn] at h; exact .inl ⟨hn, h⟩
    · rw [List.getElem?_append_right (by omega)] at h
      by_cases h0 : n - m.length = 0
      · rw [h0] at h; simp at h; exact .inr ⟨by omega, h.symm⟩
      · rw [List.getElem?_eq_none (by simp; omega)] at h; cases h
  refine ⟨by simp [s.len], fun n ob a h1 h2 => ?_, fun n a h1 h2 => ?_, fun n n' a hne h1 h2 => ?_, ?_⟩
  · rcases old h2 with ⟨hn, h⟩ | ⟨hn, h⟩
    · have hS : S[n]? = some ob := by rw [← h1, List.getElem?_append_left (by rw [← s.len]; exact hn)]
      by_cases ha : a = p
      · subst ha; exact (s.kf n a h hp).ro hS
      · exact (s.obj n ob a hS h).mono e (upd_ne ha)
    · subst hn; subst h
      rw [s.len, List.getElem?_concat_length] at h1
      cases h1; exact new
  · rcases old h1 with ⟨hn, h⟩ | ⟨hn, h⟩
    · exact (s.kf n a h (e.there a h2)).more _
    · subst h; rw [upd_same] at h2; cases h2
  · rcases old h1 with ⟨hn, h⟩ | ⟨hn, h⟩
    · rcases old h2 with ⟨hn', h'⟩ | ⟨hn', h'⟩
      · exact (s.nd n n' a hne h h').imp (·.more _) (·.more _)
      · subst h'; exact .inl ((s.kf n a h hp).more _)
    · rcases old h2 with ⟨hn', h'⟩ | ⟨hn', h'⟩
      · subst h; exact .inr ((s.kf n' a h' hp).more _)
      · exact absurd (hn.trans hn'.symm) hne
  · obtain ⟨ns, a, h1, h2, h3⟩ := s0_laid (ho := ho) s hp
    exact ⟨ns, a, by rw [List.getElem?_append_left (List.getElem?_eq_some_iff.mp h1).1]; exact h1, by rw [List.getElem?_append_left (List.getElem?_eq_some_iff.mp h2).1]; exact h2, h3⟩
theorem RO.opn {a : Addr} : ∀ {o : Obj}, isOpen o = true → RO K m H a o → (∃ u, H a = some u) ∧ ∀ ys, H a ≠ some (.tup ys)
  | .lst false _, _, ⟨ys, h, _⟩ => ⟨⟨_, h⟩, fun zs z => by rw [h] at z; cases z⟩
  | .dk false _, _, ⟨ys, h, _⟩ => ⟨⟨_, h⟩, fun zs z => by rw [h] at z; cases z⟩
  | .dt false _, _, ⟨ys, h, _⟩ => ⟨⟨_, h⟩, fun zs z => by rw [h] at z; cases z⟩
theorem ext_write {n : Nat} {a : Addr} {ho : HO} (h0 : n ≠ 0) (hm : m[n]? = some a) (ht : ∃ u, H a = some u) (hn : ∀ ys, H a ≠ some (.tup ys)) : Ext m H m (upd H a ho) := by
  refine ⟨⟨[], by simp, by simp⟩, fun b ys h => ?_, fun b o h hb => ?_, fun b h => ?_⟩
  · by_cases e : b = a
    · subst e; exact absurd h (hn ys)
    · rw [upd_ne e]; exact h
  · rw [upd_ne fun e => h0 (hb n (by subst e; exact hm))]; exact h
  · unfold upd at h
    split at h
    · cases h
    · exact h
theorem RS.n0 (s : RS K m S H) {n : Nat} {o : Obj} (hS : S[n]? = some o) (ho : isOpen o = true) : n ≠ 0 := fun e => by
  subst e
  obtain ⟨z, hz, hzo⟩ := s.z
  rw [hS] at hz; cases hz
  rw [ho] at hzo; cases hzo
/-- an object is written -/
theorem RS.write (s : RS K m S H) {n : Nat} {a : Addr} {o o' : Obj} {ho : HO} (hS : S[n]? = some o) (hm : m[n]? = some a) (ho_ : isOpen o = true) (new : RO K m (upd H a ho) a o') : RS K m (S.set n o') (upd H a ho) := by
  have hr := RO.opn ho_ (s.obj n o a hS hm)
  have e := ext_write (ho := ho) (s.n0 hS ho_) hm hr.1 hr.2
  have nk : ¬ KF K S n a := fun k => by
    obtain ⟨_, ns, h1, _⟩ := k
    rw [hS] at h1; cases h1; cases ho_
  have kfs : ∀ {n' : Nat} {b : Addr}, KF K S n' b → KF K (S.set n o') n' b := fun {n' b} k => by
    obtain ⟨h0, ns, h1, z⟩ := k
    refine ⟨h0, ns, ?_, z⟩
    rw [List.getElem?_set_ne (fun q => by subst q; rw [hS] at h1; cases h1; cases ho_)]
    exact h1
  refine ⟨by rw [s.len, List.length_set], fun n' ob b h1 h2 => ?_, fun n' b h1 h2 => kfs (s.kf n' b h1 (e.there b h2)), fun n1 n2 b hne h1 h2 => (s.nd n1 n2 b hne h1 h2).imp kfs kfs, ?_⟩
  rotate_left
  · obtain ⟨ns, b, h1, h2, h3⟩ := s.s0
    refine ⟨ns, b, by rw [List.getElem?_set_ne (s.n0 hS ho_)]; exact h1, h2, ?_⟩
    by_cases hb : b = a
    · subst hb
      rcases s.nd n 0 b (s.n0 hS ho_) hm h2 with k | ⟨_, ns', k1, k2⟩
      · exact absurd k nk
      · rw [h1] at k1
        have k1' : ns.map Val.int = ns'.map Val.int := by injection k1 with k1; injection k1
        have : ns = ns' := (List.map_inj_right (fun x y e => by injection e)).mp k1'
        subst this
        exact .inl k2
    · exact h3.imp id fun ⟨o, xs, e⟩ => ⟨o, xs, by rw [upd_ne hb]; exact e⟩
  by_cases hn : n = n'
  · subst hn
    rw [hm] at h2; cases h2
    rw [List.getElem?_set_self (List.getElem?_eq_some_iff.mp hS).1] at h1
    cases h1; exact new
  · rw [List.getElem?_set_ne hn] at h1
    by_cases hb : b = a
    · subst hb
      rcases s.nd n n' b hn hm h2 with k | k
      · exact absurd k nk
      · exact k.ro h1
    · exact (s.obj n' ob b h1 h2).mono e (upd_ne hb)
end
/-- places that hold nothing frozen -/
def NoF (H : Hp) (t : List Addr) : Prop := ∀ a ∈ t, ∀ ob u, H a ≠ some (.frz ob u)
theorem NoF.out {m t : List Addr} {H : Hp} (ht : NoF H t) {a : Addr} {ob : PySem.Obj} {u : HO} (h : H a = some (.frz ob u)) (hc : ∀ n : Nat, m[n]? = some a → n = 0) : ∀ n : Nat, (m ++ t)[n]? = some a → n = 0 := by
  intro n hn
  by_cases hlt : n < m.length
  · rw [List.getElem?_append_left hlt] at hn; exact hc n hn
  · rw [List.getElem?_append_right (by omega)] at hn
    exact absurd h (ht a (List.mem_of_getElem? hn) ob u)
theorem NoF.one {H : Hp} {p : Addr} {ho : HO} (h : H p = some ho) (hf : ∀ ob u, ho ≠ .frz ob u) : NoF H [p] := by
  intro a ha ob u q
  rw [List.mem_singleton.mp ha, h] at q
  exact hf ob u (Option.some.inj q)
mutual
theorem RV.grow {m : List Addr} {H : Hp} (t : List Addr) (ht : NoF H t) : ∀ {v : Val} {x : V}, RV m H v x → RV (m ++ t) H v x
  | _, _, .non => .non
  | _, _, .bl b => .bl b
  | _, _, .int i => .int i
  | _, _, .str x => .str x
  | _, _, .ty n => .ty n
  | _, _, .ref h => .ref (by rw [List.getElem?_append_left (List.getElem?_eq_some_iff.mp h).1]; exact h)
  | _, _, .tup h r => .tup h (RVs.grow t ht r)
  | _, _, .ftup h hc r => .ftup h (ht.out h hc) (RVs.grow t ht r)
theorem RVs.grow {m : List Addr} {H : Hp} (t : List Addr) (ht : NoF H t) : ∀ {v : List Val} {x : List V}, RVs m H v x → RVs (m ++ t) H v x
  | _, _, .nil => .nil
  | _, _, .cons a b => .cons (RV.grow t ht a) (RVs.grow t ht b)
end
theorem RK.grow {κ : Type} {m : List Addr} {H : Hp} (t : List Addr) (ht : NoF H t) : ∀ {v : List (κ × Val)} {x : List (κ × V)}, RK m H v x → RK (m ++ t) H v x
  | _, _, .nil => .nil
  | _, _, .cons a b => .cons (a.grow t ht) (RK.grow t ht b)
theorem RO.grow {K : PySem.W.Frag} {m : List Addr} {H : Hp} {a : Addr} (t : List Addr) (ht : NoF H t) : ∀ {o : Obj}, RO K m H a o → RO K (m ++ t) H a o
  | .lst false _, ⟨ys, h, r⟩ => ⟨ys, h, r.grow t ht⟩
  | .lst true _, ⟨ys, h, r⟩ => ⟨ys, h, r.grow t ht⟩
  | .dk false _, ⟨ys, h, r⟩ => ⟨ys, h, r.grow t ht⟩
  | .dk true _, ⟨o, ys, h, r⟩ => ⟨o, ys, h, r.grow t ht⟩
  | .dt false _, ⟨ys, h, r⟩ => ⟨ys, h, r.grow t ht⟩
  | .dt true _, ⟨o, ys, h, r⟩ => ⟨o, ys, h, r.grow t ht⟩
/-- the address of an object that is not of the store is at no place but the script's -/
theorem RS.out {K : PySem.W.Frag} {m1 : List Addr} {S1 : Store} {H1 : Hp} {p : Addr} (s1 : RS K m1 S1 H1) (hp : H1 p = none) : ∀ n : Nat, m1[n]? = some p → n = 0 := fun n h => (s1.kf n p h hp).1
/-- a tuple, a frozen thing -/
def Fxd (o : HO) : Prop := (∃ ys, o = .tup ys) ∨ ∃ ob u, o = .frz ob u
mutual
theorem RV.heap {m : List Addr} {H H' : Hp} (k : ∀ a o, Fxd o → H a = some o → H' a = some o) : ∀ {v : Val} {x : V}, RV m H v x → RV m H' v x
  | _, _, .non => .non
  | _, _, .bl b => .bl b
  | _, _, .int i => .int i
  | _, _, .str x => .str x
  | _, _, .ty n => .ty n
  | _, _, .ref h => .ref h
  | _, _, .tup h r => .tup (k _ _ (.inl ⟨_, rfl⟩) h) (RVs.heap k r)
  | _, _, .ftup h hc r => .ftup (k _ _ (.inr ⟨_, _, rfl⟩) h) hc (RVs.heap k r)
theorem RVs.heap {m : List Addr} {H H' : Hp} (k : ∀ a o, Fxd o → H a = some o → H' a = some o) : ∀ {v : List Val} {x : List V}, RVs m H v x → RVs m H' v x
  | _, _, .nil => .nil
  | _, _, .cons a b => .cons (RV.heap k a) (RVs.heap k b)
end
theorem RK.heap {κ : Type} {m : List Addr} {H H' : Hp} (k : ∀ a o, Fxd o → H a = some o → H' a = some o) : ∀ {v : List (κ × Val)} {x : List (κ × V)}, RK m H v x → RK m H' v x
  | _, _, .nil => .nil
  | _, _, .cons a b => .cons (a.heap k) (RK.heap k b)
theorem RO.heap {K : PySem.W.Frag} {m : List Addr} {H H' : Hp} {a : Addr} (k : ∀ a o, Fxd o → H a = some o → H' a = some o) (ha : H' a = H a) : ∀ {o : Obj}, RO K m H a o → RO K m H' a o
  | .lst false _, ⟨ys, h, r⟩ => ⟨ys, ha.trans h, r.heap k⟩
  | .lst true _, ⟨ys, h, r⟩ => ⟨ys, sq_same ha h, r.heap k⟩
  | .dk false _, ⟨ys, h, r⟩ => ⟨ys, ha.trans h, r.heap k⟩
  | .dk true _, ⟨o, ys, h, r⟩ => ⟨o, ys, ha.trans h, r.heap k⟩
  | .dt false _, ⟨ys, h, r⟩ => ⟨ys, ha.trans h, r.heap k⟩
  | .dt true _, ⟨o, ys, h, r⟩ => ⟨o, ys, ha.trans h, r.heap k⟩
/-- an object of our own beside the store: at p, tracked -/
structure Side (K : PySem.W.Frag) (m1 : List Addr) (H1 : Hp) (m : List Addr) (S : Store) (H : Hp) (p : Addr) (ho : HO) : Prop where
  ext : Ext m1 H1 m H
  rs : RS K m S H
  out : ∀ n : Nat, m[n]? = some p → n = 0
  at_ : H p = some ho
section
variable {K : PySem.W.Frag} {m1 m m2 : List Addr} {H1 H H2 : Hp} {S S2 : Store} {p : Addr} {ho ho' : HO}
theorem Side.start {S1 : Store} (s : RS K m1 S1 H1) (hp : H1 p = none) : Side K m1 H1 m1 S1 (upd H1 p ho) p ho := ⟨ext_new hp, s.laidT hp, s.out hp, upd_same⟩
theorem Side.go (d : Side K m1 H1 m S H p ho) (e : Ext m H m2 H2) (s : RS K m2 S2 H2) : Side K m1 H1 m2 S2 H2 p ho := by
  refine ⟨d.ext.trans e, s, fun n hn => ?_, e.keep p ho d.at_ d.out⟩
  obtain ⟨t, hm, hf⟩ := e.pre
  rw [hm] at hn
  by_cases hlt : n < m.length
  · rw [List.getElem?_append_left hlt] at hn; exact d.out n hn
  · rw [List.getElem?_append_right (by omega)] at hn
    have := hf p (List.mem_of_getElem? hn)
    rw [d.at_] at this; cases this
theorem Side.isk (d : Side K m1 H1 m S H p ho) (hf : ∀ ob u, ho ≠ .frz ob u) {n : Nat} (hn : m[n]? = some p) : KF K S n p := by
  have h0 := d.out n hn
  subst h0
  obtain ⟨ns, a, h1, h2, h3⟩ := d.rs.s0
  rw [hn] at h2
  cases h2
  rcases h3 with h3 | ⟨ob, xs, h3⟩
  · exact ⟨rfl, ns, h1, h3⟩
  · rw [d.at_] at h3
    exact absurd (Option.some.inj h3) (hf _ _)
theorem Side.write (d : Side K m1 H1 m S H p ho) (hp : H1 p = none) (hf : ∀ ob u, ho ≠ .frz ob u) (hn : ∀ ys, ho ≠ .tup ys) : Side K m1 H1 m S (upd H p ho') p ho' := by
  have tk : ∀ a o, Fxd o → H a = some o → upd H p ho' a = some o := fun a o f h => by
    rw [upd_ne fun e => by
      rw [e, d.at_] at h
      rcases f with ⟨ys, rfl⟩ | ⟨ob, u, rfl⟩
      · exact hn ys (Option.some.inj h)
      · exact hf ob u (Option.some.inj h)]; exact h
  refine ⟨⟨d.ext.pre, fun a ys h => tk a _ (.inl ⟨_, rfl⟩) (d.ext.tups a ys h), fun a o h hc => ?_, fun a h => ?_⟩, ⟨d.rs.len, fun n o a h1 h2 => ?_, fun n a h1 h2 => ?_, d.rs.nd, ?_⟩, d.out, upd_same⟩
  · rw [upd_ne (ne_of_none h hp)]; exact d.ext.keep a o h hc
  · by_cases e : a = p
    · rw [e]; exact hp
    · rw [upd_ne e] at h; exact d.ext.there a h
  · by_cases e : a = p
    · subst e
      exact (d.isk hf h2).ro h1
    · exact (d.rs.obj n o a h1 h2).heap tk (upd_ne e)
  · by_cases e : a = p
    · subst e; exact d.isk hf h1
    · rw [upd_ne e] at h2; exact d.rs.kf n a h1 h2
  · obtain ⟨ns, a, h1, h2, h3⟩ := d.rs.s0
    refine ⟨ns, a, h1, h2, h3.imp id fun ⟨o, xs, e⟩ => ⟨o, xs, ?_⟩⟩
    rw [upd_ne fun q => by rw [q, d.at_] at e; exact hf _ _ (Option.some.inj e)]
    exact e
/-- it joins the store -/
theorem Side.adopt {o : Obj} (d : Side K m1 H1 m S H p ho) (hp : H1 p = none) (hf : ∀ ob u, ho ≠ .frz ob u) (new : RO K (m ++ [p]) H p o) : RS K (m ++ [p]) (S ++ [o]) H ∧ Ext m1 H1 (m ++ [p]) H := by
  have s := d.rs
  have hH := d.at_
  have old : ∀ {n : Nat} {a : Addr}, (m ++ [p])[n]? = some a → (n < m.length ∧ m[n]? = some a) ∨ (n = m.length ∧ a = p) := fun {n a} h => by
    by_cases hn : n < m.length
    · rw [List.getElem?_append_left hn] at h; exact .inl ⟨hn, h⟩
    · rw [List.getElem?_append_right (by omega)] at h
      by_cases h0 : n - m.length = 0
      · rw [h0] at h; simp at h; exact .inr ⟨by omega, h.symm⟩
      · rw [List.getElem?_eq_none (by simp; omega)] at h; cases h
  refine ⟨⟨by simp [s.len], fun n ob a h1 h2 => ?_, fun n a h1 h2 => ?_, fun n n' a hne h1 h2 => ?_, ?_⟩, ext_add2 d.ext hp⟩
  · rcases old h2 with ⟨hn, h⟩ | ⟨hn, h⟩
    · have hS : S[n]? = some ob := by rw [← h1, List.getElem?_append_left (by rw [← s.len]; exact hn)]
      exact (s.obj n ob a hS h).grow [p] (.one hH hf)
    · subst hn; subst h
      rw [s.len, List.getElem?_concat_length] at h1
      cases h1; exact new
  · rcases old h1 with ⟨hn, h⟩ | ⟨hn, h⟩
    · exact (s.kf n a h h2).more _
    · subst h; rw [hH] at h2; cases h2
  · rcases old h1 with ⟨hn, h⟩ | ⟨hn, h⟩
    · rcases old h2 with ⟨hn', h'⟩ | ⟨hn', h'⟩
      · exact (s.nd n n' a hne h h').imp (·.more _) (·.more _)
      · subst h'; exact .inl ((d.isk hf h).more _)
    · rcases old h2 with ⟨hn', h'⟩ | ⟨hn', h'⟩
      · subst h; exact .inr ((d.isk hf h').more _)
      · exact absurd (hn.trans hn'.symm) hne
  · obtain ⟨ns, a, h1, h2, h3⟩ := s.s0
    exact ⟨ns, a, by rw [List.getElem?_append_left (List.getElem?_eq_some_iff.mp h1).1]; exact h1, by rw [List.getElem?_append_left (List.getElem?_eq_some_iff.mp h2).1]; exact h2, h3⟩
end
/-- slots -/
structure RE (m : List Addr) (H : Hp) (ρ : Env) (σ : List (Option V)) : Prop where
  len : ρ.length = σ.length
  get : ∀ (i : Nat) (v : Val), ρ[i]? = some (some v) → ∃ x, σ[i]? = some (some x) ∧ RV m H v x
theorem RE.mono {m m1 : List Addr} {H H1 : Hp} {ρ : Env} {σ : List (Option V)} (e : Ext m H m1 H1) (r : RE m H ρ σ) : RE m1 H1 ρ σ :=
  ⟨r.len, fun i v h => let ⟨x, h1, h2⟩ := r.get i v h; ⟨x, h1, h2.mono e⟩⟩
theorem RE.set {m : List Addr} {H : Hp} {ρ : Env} {σ : List (Option V)} (r : RE m H ρ σ) (i : Nat) {v : Val} {x : V} (rv : RV m H v x) : RE m H (ρ.set i (some v)) (σ.set i (some x)) := by
  refine ⟨by simp [r.len], fun j w h => ?_⟩
  by_cases hij : i = j
  · subst hij
    have hl : i < ρ.length := by
      have := (List.getElem?_eq_some_iff.mp h).1
      simpa using this
    rw [List.getElem?_set_self hl] at h
    cases h
    exact ⟨x, List.getElem?_set_self (by rw [← r.len]; exact hl), rv⟩
  · rw [List.getElem?_set_ne hij] at h
    obtain ⟨y, h1, h2⟩ := r.get j w h
    exact ⟨y, by rw [List.getElem?_set_ne hij]; exact h1, h2⟩
theorem RE.drop1 {m : List Addr} {H : Hp} {ρ : Env} {σ : List (Option V)} (r : RE m H ρ σ) (i : Nat) (z : Option V) : RE m H (ρ.set i none) (σ.set i z) := by
  refine ⟨by simp [r.len], fun j w h => ?_⟩
  by_cases hij : i = j
  · subst hij
    have hl : i < ρ.length := by
      have := (List.getElem?_eq_some_iff.mp h).1
      simpa using this
    rw [List.getElem?_set_self hl] at h
    cases h
  · rw [List.getElem?_set_ne hij] at h
    obtain ⟨y, h1, h2⟩ := r.get j w h
    exact ⟨y, by rw [List.getElem?_set_ne hij]; exact h1, h2⟩
theorem RE.wipe {m : List Addr} {H : Hp} {ρ : Env} {σ : List (Option V)} (r : RE m H ρ σ) : ∀ vs : List Nat, RE m H (wipeE ρ vs) (wipe σ vs)
  | [] => r
  | v :: vs => (RE.wipe r vs).drop1 v none
end Rf

/-! Rf2: values' operations over the model. -/
namespace Rf
open PySem PySem.Spec PyProof.Rows L2

def K1 (K : PySem.W.Frag) (m : List Addr) (H : Hp) (v : Val) (S : Store) (Q : VK) : Prop := ∀ x m' H', Ext m H m' H' → RS K m' S H' → RV m' H' v x → Q x H'
section
variable {K : PySem.W.Frag} {m m1 : List Addr} {S S' : Store} {H H1 : Hp} {v : Val} {Q : VK}
theorem K1.mono (e : Ext m H m1 H1) (k : K1 K m H v S Q) : K1 K m1 H1 v S Q := fun x m' H' e' s r => k x m' H' (e.trans e') s r
theorem K1.now (k : K1 K m H v S Q) (s : RS K m S H) {x : V} (r : RV m H v x) : Q x H := k x m H (.refl _ _) s r
theorem K1.tup {vs : List Val} {xs : List V} {p : Addr} (k : K1 K m H (.tup vs) S Q) (s : RS K m S H) (r : RVs m H vs xs) (hp : H p = none) : Q (.ref p) (upd H p (.tup xs)) := by
  have e := ext_new (m := m) (ho := .tup xs) hp
  exact k _ m _ e (s.laidT hp) (.tup upd_same (r.mono e))
theorem K1.lst {vs : List Val} {xs : List V} {p : Addr} (k : K1 K m H (.ref S.length) (S ++ [.lst false vs]) Q) (s : RS K m S H) (r : RVs m H vs xs) (hp : H p = none) : Q (.ref p) (upd H p (.lst xs)) := by
  have e := ext_add (ext_new (m := m) (ho := .lst xs) hp) hp
  exact k _ _ _ e (s.alloc hp ⟨xs, upd_same, r.mono e⟩) (.ref (by rw [← s.len]; simp))
theorem newL_some {vs : List Val} (h : newL vs S = some (v, S')) : vs.length ≤ sizeLine ∧ v = .ref S.length ∧ S' = S ++ [.lst false vs] := by
  unfold newL at h
  split at h
  · cases h; exact ⟨by assumption, rfl, rfl⟩
  · cases h
theorem newT_some {vs : List Val} (h : newT vs S = some (v, S')) : vs.length ≤ sizeLine ∧ v = .tup vs ∧ S' = S := by
  unfold newT at h
  split at h
  · cases h; exact ⟨by assumption, rfl, rfl⟩
  · cases h
end
/-- a two-place operation of ours -/
def rB (K : PySem.W.Frag) (f : Val → Val → Store → R Val) : R2 := fun x y H Q => ∃ m S a b v S', RS K m S H ∧ RV m H a x ∧ RV m H b y ∧ f a b S = some (v, S') ∧ K1 K m H v S' Q
def pyB : Bop → Operator
  | .add => .Add | .sub => .Sub | .mul => .Mult | .fdiv => .FloorDiv | .mod => .Mod | .pow => .Pow | .shl => .LShift
section
variable {X : Cx}
theorem or2 {f : Value → Value → Sem Value} {r r' : R2} (h : OpR X f r) (h' : ∀ x y H Q, r' x y H Q → r x y H Q) : OpR X f r' := fun pins s σ H x y v u Q I rx ry q => h pins s σ H x y v u Q I rx ry (h' x y H Q q)
theorem small64_ok {i : Int} (h : small64 i = true) : -(2 ^ 64) < i ∧ i < 2 ^ 64 := by
  unfold small64 at h
  simpa using h
theorem ok_add : OpR X (binaryOp .Add) (rB X.K addV) := by
  intro pins s σ H x y v u Q I rx ry h
  obtain ⟨m, S, a, b, w, S', hs, ra, rb, h, k⟩ := h
  cases ra with
  | int i =>
    cases rb with
    | int j => cases h; exact op_add pins s σ H _ _ v u Q I rx ry ⟨i, j, rfl, rfl, k.now hs (.int _)⟩
    | _ => cases h
  | str i =>
    cases rb with
    | str j =>
      simp only [addV] at h
      split at h
      · cases h; exact op_add_str pins s σ H _ _ v u Q I rx ry ⟨i, j, rfl, rfl, by assumption, k.now hs (.str _)⟩
      · cases h
    | _ => cases h
  | tup ha r1 =>
    cases rb with
    | tup hb r2 =>
      obtain ⟨hz, rfl, rfl⟩ := newT_some h
      rename_i xs a ys ws b zs
      rw [List.length_append, r1.length, r2.length] at hz
      refine op_catA pins s σ H _ _ v u Q I rx ry ⟨a, b, ys, zs, rfl, rfl, .of ha, .of hb, hz, fun e => ?_, fun _ e => ?_, fun _ _ p hp => k.tup hs (r1.append r2) hp⟩
      · subst e
        cases r1
        exact k.now hs (.tup hb r2)
      · subst e
        cases r2
        rw [List.append_nil] at k
        exact k.now hs (.tup ha r1)
    | _ => cases h
  | ref ha =>
    rename_i n a
    cases rb with
    | ref hb =>
      rename_i n' b
      simp only [addV] at h
      split at h
      · rename_i xs ys e1 e2
        obtain ⟨hz, rfl, rfl⟩ := newL_some h
        obtain ⟨p, hp, rp⟩ := hs.at e1 ha
        obtain ⟨q, hq, rq⟩ := hs.at e2 hb
        rw [List.length_append, rp.length, rq.length] at hz
        exact op_cat pins s σ H _ _ v u Q I rx ry ⟨a, b, p, q, rfl, rfl, hp, hq, hz, fun l hl => k.lst hs (rp.append rq) hl⟩
      · cases h
    | _ => cases h
  | _ => cases h
theorem ok_mul : OpR X (binaryOp .Mult) (rB X.K mulV) := by
  intro pins s σ H x y v u Q I rx ry h
  obtain ⟨m, S, a, b, w, S', hs, ra, rb, h, k⟩ := h
  cases ra with
  | int i =>
    cases rb with
    | int j =>
      simp only [mulV] at h
      split at h
      · rename_i hm
        cases h
        refine op_mul pins s σ H _ _ v u Q I rx ry ⟨i, j, rfl, rfl, ?_, k.now hs (.int _)⟩
        unfold mulOk at hm
        rcases Bool.or_eq_true_iff.mp hm with q | q
        · exact .inl (small64_ok q)
        · exact .inr (small64_ok q)
      · cases h
    | _ => cases h
  | ref ha =>
    rename_i n a
    cases rb with
    | int j =>
      simp only [mulV] at h
      split at h
      · rename_i xs e1
        split at h
        · rename_i hc
          simp only [Bool.and_eq_true, decide_eq_true_eq] at hc
          obtain ⟨_, rfl, rfl⟩ := newL_some h
          obtain ⟨p, hp, rp⟩ := hs.at e1 ha
          refine op_rep pins s σ H _ _ v u Q I rx ry ⟨a, j, p, rfl, rfl, hp, hc.1.1, hc.1.2, by rw [← rp.length]; exact hc.2, fun l hl => k.lst hs (rp.flatten_replicate _) hl⟩
        · cases h
      · cases h
    | _ => cases h
  | tup ha r1 =>
    rename_i xs a ys
    cases rb with
    | int j =>
      simp only [mulV] at h
      split at h
      · rename_i hc
        simp only [Bool.and_eq_true, decide_eq_true_eq, Bool.not_eq_true', List.isEmpty_eq_false_iff] at hc
        obtain ⟨⟨⟨c1, c2⟩, c3⟩, c4⟩ := hc
        cases h
        refine op_repT pins s σ H _ _ v u Q I rx ry ⟨a, j, ys, rfl, rfl, .of ha, fun e => c1 ?_, c2, c3, by rw [← r1.length]; exact c4, fun p hp => k.tup hs (r1.flatten_replicate _) hp⟩
        have := r1.length
        rw [e] at this
        exact List.eq_nil_of_length_eq_zero this
      · cases h
    | _ => cases h
  | _ => cases h
theorem ok_bin (op : Bop) : OpR X (binaryOp (pyB op)) (rB X.K (binV op)) := by
  cases op with
  | add => exact ok_add
  | mul => exact ok_mul
  | sub =>
    intro pins s σ H x y v u Q I rx ry h
    obtain ⟨m, S, a, b, w, S', hs, ra, rb, h, k⟩ := h
    cases ra <;> cases rb <;> first | (cases h; done) | skip
    cases h
    exact op_sub pins s σ H _ _ v u Q I rx ry ⟨_, _, rfl, rfl, k.now hs (.int _)⟩
  | fdiv =>
    intro pins s σ H x y v u Q I rx ry h
    obtain ⟨m, S, a, b, w, S', hs, ra, rb, h, k⟩ := h
    cases ra <;> cases rb <;> first | (cases h; done) | skip
    simp only [binV] at h
    split at h
    · rename_i hc
      simp only [Bool.and_eq_true, decide_eq_true_eq] at hc
      cases h
      exact op_fdiv pins s σ H _ _ v u Q I rx ry ⟨_, _, rfl, rfl, hc, k.now hs (.int _)⟩
    · cases h
  | mod =>
    intro pins s σ H x y v u Q I rx ry h
    obtain ⟨m, S, a, b, w, S', hs, ra, rb, h, k⟩ := h
    cases ra <;> cases rb <;> first | (cases h; done) | skip
    simp only [binV] at h
    split at h
    · rename_i hc
      simp only [decide_eq_true_eq] at hc
      cases h
      exact op_mod pins s σ H _ _ v u Q I rx ry ⟨_, _, rfl, rfl, hc, k.now hs (.int _)⟩
    · cases h
  | pow =>
    intro pins s σ H x y v u Q I rx ry h
    obtain ⟨m, S, a, b, w, S', hs, ra, rb, h, k⟩ := h
    cases ra <;> cases rb <;> first | (cases h; done) | skip
    simp only [binV] at h
    split at h
    · rename_i hc
      simp only [Bool.and_eq_true, decide_eq_true_eq] at hc
      cases h
      exact op_pow pins s σ H _ _ v u Q I rx ry ⟨_, _, rfl, rfl, ⟨hc.1.1, hc.1.2, hc.2⟩, k.now hs (.int _)⟩
    · cases h
  | shl =>
    intro pins s σ H x y v u Q I rx ry h
    obtain ⟨m, S, a, b, w, S', hs, ra, rb, h, k⟩ := h
    cases ra <;> cases rb <;> first | (cases h; done) | skip
    simp only [binV] at h
    split at h
    · rename_i hc
      simp only [Bool.and_eq_true, decide_eq_true_eq] at hc
      cases h
      exact op_shl pins s σ H _ _ v u Q I rx ry ⟨_, _, rfl, rfl, ⟨hc.1.1, hc.1.2, hc.2⟩, k.now hs (.int _)⟩
    · cases h

/-! ### data -/
theorem mapO_cons {α β : Type} {f : α → Option β} {x : α} {xs : List α} {ys : List β} (h : mapO f (x :: xs) = some ys) : ∃ y r, f x = some y ∧ mapO f xs = some r ∧ ys = y :: r := by
  simp only [mapO] at h
  split at h
  · cases h
  · split at h
    · cases h
    · cases h; exact ⟨_, _, by assumption, by assumption, rfl⟩
theorem dp_of {K : PySem.W.Frag} {m : List Addr} {S : Store} {H : Hp} (s : RS K m S H) : ∀ (k : Nat) {v : Val} {x : V} {d : PyData}, toD k S v = some d → RV m H v x → Dp K H x d := by
  intro k
  induction k with
  | zero => intro v x d h _; cases h
  | succ k ih =>
    have all : ∀ {vs : List Val} {xs : List V} {ds : List PyData}, mapO (toD k S) vs = some ds → RVs m H vs xs → DpAll K H xs ds := by
      intro vs
      induction vs with
      | nil => intro xs ds h r; cases r; cases h; exact .nil
      | cons v vs ihv =>
        intro xs ds h r
        cases r with
        | cons r1 r2 =>
          obtain ⟨y, q, h1, h2, rfl⟩ := mapO_cons h
          exact .cons (ih h1 r1) (ihv h2 r2)
    intro v x d h r
    cases r with
    | non => cases h; exact .non
    | bl b => cases h; exact .bl b
    | int i => cases h; exact .int i
    | str z => cases h; exact .str z
    | ty n => cases h
    | ftup _ _ _ => cases h
    | tup ha r =>
      obtain ⟨ds, h1, rfl⟩ := Option.map_eq_some_iff.mp h
      exact .tup (.of ha) (all h1 r)
    | ref hm =>
      simp only [toD] at h
      split at h
      · rename_i lk xs e
        obtain ⟨ds, h1, rfl⟩ := Option.map_eq_some_iff.mp h
        have ro := s.at e hm
        cases lk with
        | false => obtain ⟨ys, h2, r2⟩ := ro; exact .lst (.of h2) (all h1 r2)
        | true => obtain ⟨ys, h2, r2⟩ := ro; exact .lst h2 (all h1 r2)
      · cases h
theorem keyOf_rel {m : List Addr} {H : Hp} {v : Val} {x : V} {k : Key} (h : keyOf v = some k) (r : RV m H v x) : x = kV k := by
  cases r <;> cases h <;> rfl
theorem keysOf_rel {m : List Addr} {H : Hp} : ∀ {vs : List Val} {xs : List V} {ks : List Key}, mapO keyOf vs = some ks → RVs m H vs xs → xs = ks.map kV
  | [], _, _, h, .nil => by cases h; rfl
  | v :: vs, _, _, h, .cons a b => by
    obtain ⟨k, ks, h1, h2, rfl⟩ := mapO_cons h
    rw [List.map_cons, keyOf_rel h1 a, keysOf_rel h2 b]
end
/-! ### dicts -/
section
variable {X : Cx} {pins : List (Addr × PySem.Obj)} {σ : L2.St} {H : Hp} {s : Shared} {a : Addr}
theorem retT (I : Inv X pins σ H s) (e : H a = some (.dK [])) : Inv X pins σ (upd H a (.dT [])) s := by
  obtain ⟨z, hd, vs, rel, ob, es, ep, h1, h2, h3, h4, h5, h6⟩ := dk_of I.hok e
  cases rel
  have h7 : es.toList = [] := by
    generalize es.toList = l at h5
    cases h5; rfl
  exact I.write (x := a) (e := a) (o := .dT []) (h' := s.heap) (t' := s.toks) (by rw [e]; exact True.intro) (.inl rfl) (fun b u _ q => q) ⟨_, h1⟩ ⟨Nat.zero_le _, hd, [], .nil, ob, es, ep, h1, h2, h3, h7, List.nodup_nil⟩
theorem retK (I : Inv X pins σ H s) (e : H a = some (.dT [])) : Inv X pins σ (upd H a (.dK [])) s := by
  obtain ⟨z, hd, vs, rel, ob, es, ep, h1, h2, h3, h4, _, h5⟩ := dt_of I.hok e
  cases rel
  exact I.write (x := a) (e := a) (o := .dK []) (h' := s.heap) (t' := s.toks) (by rw [e]; exact True.intro) (.inl rfl) (fun b u _ q => q) ⟨_, h1⟩ ⟨Nat.zero_le _, hd, [], .nil, ob, es, ep, h1, h2, h3, (fun q hq => by
    have : q ∈ es.toList := Array.mem_toList_iff.mpr hq
    rw [h4] at this; cases this), (by rw [h4]; exact .nil), List.nodup_nil⟩
/-- turned there and back -/
theorem back {ho : HO} (e : H a = some ho) (u : HO) : upd (upd H a u) a ho = H := by
  funext b
  unfold upd
  by_cases h : b = a
  · subst h; simp [e]
  · simp [h]
theorem back' {ho : HO} (e : H a = some ho) : upd H a ho = H := by
  funext b
  unfold upd
  by_cases h : b = a
  · subst h; simp [e]
  · simp [h]
def ORel (m : List Addr) (H : Hp) : Option Val → Option V → Prop
  | none, none => True
  | some v, some x => RV m H v x
  | _, _ => False
theorem ORel.isSome {m : List Addr} {o : Option Val} {p : Option V} (r : ORel m H o p) : o.isSome = p.isSome := by
  cases o <;> cases p <;> first | rfl | cases r
theorem RK.orel {κ : Type} [DecidableEq κ] {m : List Addr} {ks : List (κ × Val)} {ys : List (κ × V)} (r : RK m H ks ys) (k : κ) : ORel m H (getK ks k) (valV ys k) := by
  rcases r.look (k := k) with ⟨h1, h2⟩ | ⟨p, q, h1, h2, h3⟩
  · rw [h1, h2]; trivial
  · rw [h1, h2]; exact h3
/-- what dGet says, of the model -/
theorem dget_rel {K : PySem.W.Frag} {m : List Addr} {S : Store} {n : Nat} {o : Obj} {y : Val} {x : V} {r : Option Val} (s : RS K m S H) (hm : m[n]? = some a) (hS : S[n]? = some o) (h : dGet o y = some r) (ry : RV m H y x) :
    (∃ r', DGet H a x r' ∧ ORel m H r r') ∨ (r = none ∧ ((H a = some (.dK []) ∧ DGet (upd H a (.dT [])) a x none) ∨ (H a = some (.dT []) ∧ DGet (upd H a (.dK [])) a x none))) := by
  have ro := s.at hS hm
  cases o with
  | lst lk xs => cases h
  | dk lk kvs =>
    simp only [dGet] at h
    split at h
    · rename_i k e
      cases h
      have ex := keyOf_rel e ry
      subst ex
      cases lk with
      | false => obtain ⟨ys, h1, r1⟩ := ro; exact .inl ⟨_, .inl ⟨ys, k, .inl h1, rfl, rfl⟩, r1.orel k⟩
      | true => obtain ⟨ob, ys, h1, r1⟩ := ro; exact .inl ⟨_, .inl ⟨ys, k, .inr ⟨ob, h1⟩, rfl, rfl⟩, r1.orel k⟩
    · split at h
      · rename_i ks e
        cases h
        obtain ⟨ys, h1, r1⟩ := ro
        cases r1
        cases ry with
        | @tup xs b zs hb r2 =>
          have ez := keysOf_rel e r2
          subst ez
          have nb : b ≠ a := ne_of hb h1 (fun z => nomatch z)
          refine .inr ⟨rfl, .inl ⟨h1, .inr ⟨[], ks, b, .inl upd_same, rfl, by rw [upd_ne nb]; exact hb, rfl⟩⟩⟩
        | _ => cases e
      · cases h
  | dt lk kvs =>
    simp only [dGet] at h
    split at h
    · rename_i ks e
      cases h
      cases ry with
      | @tup xs b zs hb r2 =>
        have ez := keysOf_rel e r2
        subst ez
        cases lk with
        | false => obtain ⟨ys, h1, r1⟩ := ro; exact .inl ⟨_, .inr ⟨ys, ks, b, .inl h1, rfl, hb, rfl⟩, r1.orel ks⟩
        | true => obtain ⟨ob, ys, h1, r1⟩ := ro; exact .inl ⟨_, .inr ⟨ys, ks, b, .inr ⟨ob, h1⟩, rfl, hb, rfl⟩, r1.orel ks⟩
      | _ => cases e
    · split at h
      · rename_i k e
        cases h
        obtain ⟨ys, h1, r1⟩ := ro
        cases r1
        have ex := keyOf_rel e ry
        subst ex
        exact .inr ⟨rfl, .inr ⟨h1, .inl ⟨[], k, .inl upd_same, rfl, rfl⟩⟩⟩
      · cases h
variable {u : Value} {A : Around} {E : Value → Shared → Prop}
theorem in_dict {K : PySem.W.Frag} {m : List Addr} {S : Store} {n : Nat} {o : Obj} {y : Val} {x : V} {r : Option Val} {Q : Value → Shared → Prop} (hu : A.units + 1 < cLine) (I : Inv X pins σ H s) (sr : RS K m S H) (hm : m[n]? = some a) (hS : S[n]? = some o) (h : dGet o y = some r)
    (ry : RV m H y x) (rx : RelV x u) (hq : ∀ s', Inv X pins σ H s' → Q (.bool r.isSome) s') : wpAny (model X.prog X.w) A (compareOp .In u (.ref a)) Q E s := by
  rcases dget_rel sr hm hS h ry with ⟨r', g, e⟩ | ⟨rfl, ⟨h1, g⟩ | ⟨h1, g⟩⟩
  · rw [e.isSome] at hq; exact d_in hu I g rx hq
  · exact d_in hu (retT I h1) g rx fun s' I' => hq s' (by have := retK I' upd_same; rwa [back h1] at this)
  · exact d_in hu (retK I h1) g rx fun s' I' => hq s' (by have := retT I' upd_same; rwa [back h1] at this)
theorem notin_dict {K : PySem.W.Frag} {m : List Addr} {S : Store} {n : Nat} {o : Obj} {y : Val} {x : V} {r : Option Val} {Q : Value → Shared → Prop} (hu : A.units + 1 < cLine) (I : Inv X pins σ H s) (sr : RS K m S H) (hm : m[n]? = some a) (hS : S[n]? = some o) (h : dGet o y = some r)
    (ry : RV m H y x) (rx : RelV x u) (hq : ∀ s', Inv X pins σ H s' → Q (.bool (!r.isSome)) s') : wpAny (model X.prog X.w) A (compareOp .NotIn u (.ref a)) Q E s := by
  rcases dget_rel sr hm hS h ry with ⟨r', g, e⟩ | ⟨rfl, ⟨h1, g⟩ | ⟨h1, g⟩⟩
  · rw [e.isSome] at hq; exact d_notIn hu I g rx hq
  · exact d_notIn hu (retT I h1) g rx fun s' I' => hq s' (by have := retK I' upd_same; rwa [back h1] at this)
  · exact d_notIn hu (retK I h1) g rx fun s' I' => hq s' (by have := retT I' upd_same; rwa [back h1] at this)
theorem item_dict {K : PySem.W.Frag} {m : List Addr} {S : Store} {n : Nat} {o : Obj} {y v : Val} {x : V} {Q : Value → Shared → Prop} (hu : A.units + 1 < cLine) (I : Inv X pins σ H s) (sr : RS K m S H) (hm : m[n]? = some a) (hS : S[n]? = some o) (h : dGet o y = some (some v))
    (ry : RV m H y x) (rx : RelV x u) (hq : ∀ z w s', RV m H v z → RelV z w → Inv X pins σ H s' → Q w s') : wpAny (model X.prog X.w) A (getItem (.ref a) u) Q E s := by
  rcases dget_rel sr hm hS h ry with ⟨r', g, e⟩ | ⟨e, _⟩
  · cases r' with
    | none => cases e
    | some z => exact d_getItem hu I g rx fun w s' I' rw' => hq z w s' e rw' I'
  · cases e
/-- a[y] = v -/
theorem put_dict {K : PySem.W.Frag} {m : List Addr} {S : Store} {n : Nat} {o o' : Obj} {y v : Val} {x z : V} {w : Value} {Q : Unit → Shared → Prop} (hu : A.units + 1 < cLine) (I : Inv X pins σ H s) (sr : RS K m S H) (hm : m[n]? = some a) (hS : S[n]? = some o) (h : dPut o y v = some o')
    (ry : RV m H y x) (rx : RelV x u) (rv : RV m H v z) (rz : RelV z w) (hq : ∀ H' s', RS K m (S.set n o') H' → Ext m H m H' → Inv X pins σ H' s' → Q () s') : wpAny (model X.prog X.w) A (setItem (.ref a) u w) Q E s := by
  have ro := sr.at hS hm
  cases o with
  | lst lk xs => cases h
  | dk lk kvs =>
    cases lk with
    | true => cases h
    | false =>
      obtain ⟨ys, h1, r1⟩ := ro
      have fin : ∀ {ho : HO} {k : Key}, RO K m (upd H a ho) a o' → RS K m (S.set n o') (upd H a ho) ∧ Ext m H m (upd H a ho) := fun {ho k} new => ⟨sr.write hS hm rfl new, ext_write (sr.n0 hS rfl) hm ⟨_, h1⟩ fun ys z => by rw [h1] at z; cases z⟩
      have ew : ∀ ho : HO, Ext m H m (upd H a ho) := fun ho => ext_write (sr.n0 hS rfl) hm ⟨_, h1⟩ fun ys z => by rw [h1] at z; cases z
      simp only [dPut] at h
      split at h
      · rename_i k e
        split at h
        · rename_i hl
          cases h
          have ex := keyOf_rel e ry
          subst ex
          refine d_setItem hu I (.inl ⟨ys, k, h1, rfl, by rw [← r1.length]; exact hl, rfl⟩) rx rz fun s' I' => ?_
          exact hq _ s' (sr.write hS hm rfl ⟨_, upd_same, (r1.put rv).mono (ew _)⟩) (ew _) I'
        · cases h
      · split at h
        · rename_i ks e
          cases h
          cases r1
          cases ry with
          | @tup xs b zs hb r2 =>
            have ez := keysOf_rel e r2
            subst ez
            have nb : b ≠ a := ne_of hb h1 (fun z => nomatch z)
            refine d_setItem hu (retT I h1) (.inr ⟨[], ks, b, upd_same, rfl, by rw [upd_ne nb]; exact hb, by show 0 < sizeLine; decide, rfl⟩) rx rz fun s' I' => ?_
            rw [upd_upd] at I'
            exact hq _ s' (sr.write hS hm rfl ⟨_, upd_same, .cons (rv.mono (ew _)) .nil⟩) (ew _) I'
          | _ => cases e
        · cases h
  | dt lk kvs =>
    cases lk with
    | true => cases h
    | false =>
      obtain ⟨ys, h1, r1⟩ := ro
      have ew : ∀ ho : HO, Ext m H m (upd H a ho) := fun ho => ext_write (sr.n0 hS rfl) hm ⟨_, h1⟩ fun ys z => by rw [h1] at z; cases z
      simp only [dPut] at h
      split at h
      · rename_i ks e
        split at h
        · rename_i hl
          cases h
          cases ry with
          | @tup xs b zs hb r2 =>
            have ez := keysOf_rel e r2
            subst ez
            refine d_setItem hu I (.inr ⟨ys, ks, b, h1, rfl, hb, by rw [← r1.length]; exact hl, rfl⟩) rx rz fun s' I' => ?_
            exact hq _ s' (sr.write hS hm rfl ⟨_, upd_same, (r1.put rv).mono (ew _)⟩) (ew _) I'
          | _ => cases e
        · cases h
      · split at h
        · rename_i k e
          cases h
          cases r1
          have ex := keyOf_rel e ry
          subst ex
          refine d_setItem hu (retK I h1) (.inl ⟨[], k, upd_same, rfl, by show 0 < sizeLine; decide, rfl⟩) rx rz fun s' I' => ?_
          rw [upd_upd] at I'
          exact hq _ s' (sr.write hS hm rfl ⟨_, upd_same, .cons (rv.mono (ew _)) .nil⟩) (ew _) I'
        · cases h
end
end Rf

/-! RfSort: sorted(..) of tuples of ints. -/
namespace Rf
open PySem PySem.Spec PyProof.Rows L2

/-! ### words of ints in their order -/
theorem lexL_irr : ∀ a, lexL a a = false
  | [] => rfl
  | x :: a => by simp [lexL, lexL_irr a]
theorem lexL_asym : ∀ {a b}, lexL a b = true → lexL b a = false
  | [], [], h => by cases h
  | [], _ :: _, _ => rfl
  | _ :: _, [], h => by cases h
  | x :: a, y :: b, h => by
    unfold lexL at h ⊢
    by_cases e : x = y
    · rw [if_pos e] at h; rw [if_pos e.symm]; exact lexL_asym h
    · rw [if_neg e] at h; rw [if_neg (Ne.symm e)]
      have := of_decide_eq_true h
      exact decide_eq_false (by omega)
theorem lexL_tri : ∀ {a b}, lexL a b = false → lexL b a = false → a = b
  | [], [], _, _ => rfl
  | [], _ :: _, h, _ => by cases h
  | _ :: _, [], _, h => by cases h
  | x :: a, y :: b, h, h2 => by
    unfold lexL at h h2
    by_cases e : x = y
    · rw [if_pos e] at h; rw [if_pos e.symm] at h2
      rw [e, lexL_tri h h2]
    · rw [if_neg e] at h; rw [if_neg (Ne.symm e)] at h2
      have := of_decide_eq_false h
      have := of_decide_eq_false h2
      omega
theorem lexL_trans : ∀ {a b c}, lexL a b = true → lexL b c = true → lexL a c = true
  | [], [], _, h, _ => by cases h
  | [], _ :: _, [], _, h => by cases h
  | [], _ :: _, _ :: _, _, _ => rfl
  | _ :: _, [], _, h, _ => by cases h
  | _ :: _, _ :: _, [], _, h => by cases h
  | x :: a, y :: b, z :: c, h, h2 => by
    unfold lexL at h h2 ⊢
    by_cases e : x = y
    · subst e
      rw [if_pos rfl] at h
      by_cases e2 : x = z
      · rw [if_pos e2] at h2 ⊢; exact lexL_trans h h2
      · rw [if_neg e2] at h2 ⊢; exact h2
    · rw [if_neg e] at h
      have := of_decide_eq_true h
      by_cases e2 : y = z
      · subst e2; rw [if_neg e]; exact h
      · rw [if_neg e2] at h2
        have := of_decide_eq_true h2
        rw [if_neg (by omega)]
        exact decide_eq_true (by omega)
/-- b ≤ c and a < b .. -/
theorem lexL_neg {a b c : List Int} (h1 : lexL a b = false) (h2 : lexL b c = false) : lexL a c = false := by
  cases h : lexL a c with
  | false => rfl
  | true =>
    by_cases e : a = b
    · subst e; rw [h] at h2; cases h2
    · cases hba : lexL b a with
      | true => rw [lexL_trans hba h] at h2; cases h2
      | false => exact absurd (lexL_tri h1 hba) e
theorem insL_perm (x : List Int) : ∀ r, (insL x r).Perm (x :: r)
  | [] => .refl _
  | y :: r => by
    unfold insL
    split
    · exact ((insL_perm x r).cons y).trans (.swap x y r)
    · exact .refl _
theorem sortL_perm : ∀ r, (sortL r).Perm r
  | [] => .refl _
  | x :: r => (insL_perm x (sortL r)).trans ((sortL_perm r).cons x)
abbrev SrtL (l : List (List Int)) : Prop := l.Pairwise fun a b => lexL b a = false
theorem insL_srt (x : List Int) : ∀ r, SrtL r → SrtL (insL x r)
  | [], _ => List.pairwise_singleton _ _
  | y :: r, h => by
    obtain ⟨h1, h2⟩ := List.pairwise_cons.mp h
    unfold insL
    split
    · rename_i hy
      refine List.pairwise_cons.mpr ⟨fun z hz => ?_, insL_srt x r h2⟩
      rcases List.mem_cons.mp ((insL_perm x r).mem_iff.mp hz) with rfl | hz
      · exact lexL_asym hy
      · exact h1 z hz
    · rename_i hy
      have hy : lexL y x = false := by simpa using hy
      refine List.pairwise_cons.mpr ⟨fun z hz => ?_, h⟩
      rcases List.mem_cons.mp hz with rfl | hz
      · exact hy
      · exact lexL_neg (h1 z hz) hy
theorem sortL_srt : ∀ r, SrtL (sortL r)
  | [] => .nil
  | x :: r => insL_srt x _ (sortL_srt r)
theorem srt_uniq : ∀ {a b : List (List Int)}, a.Perm b → SrtL a → SrtL b → a = b
  | [], b, p, _, _ => (List.Perm.nil_eq p)
  | x :: a, [], p, _, _ => absurd p.length_eq (by simp)
  | x :: a, y :: b, p, ha, hb => by
    obtain ⟨a1, a2⟩ := List.pairwise_cons.mp ha
    obtain ⟨b1, b2⟩ := List.pairwise_cons.mp hb
    have e : x = y := by
      have hx : x ∈ y :: b := p.mem_iff.mp List.mem_cons_self
      have hy : y ∈ x :: a := p.mem_iff.mpr List.mem_cons_self
      rcases List.mem_cons.mp hx with h | h
      · exact h
      · rcases List.mem_cons.mp hy with h' | h'
        · exact h'.symm
        · exact lexL_tri (b1 x h) (a1 y h')
    subst e
    rw [srt_uniq (List.Perm.cons_inv p) a2 b2]

/-! ### in the model -/
/-- a tuple of ints -/
def IsTI (h : Heap) (v : Value) (l : List Int) : Prop := ∃ (a : Addr) (o : PySem.Obj) (its : Array Value) (n : Nat), v = .ref a ∧ h.get? a = some o ∧ o.cls = .type "tuple" ∧ o.data = .seq its n ∧ IntsAre its.toList l
theorem IsTI.keeps {h h' : Heap} {v : Value} {l : List Int} (x : IsTI h v l) (k : ∀ a o, h.get? a = some o → o.cls = .type "tuple" → h'.get? a = some o) : IsTI h' v l := by
  obtain ⟨a, o, its, n, e, ho, hc, r⟩ := x
  exact ⟨a, o, its, n, e, k a o ho hc, hc, r⟩
theorem ints_inj : ∀ {vs : List Value} {a b : List Int}, IntsAre vs a → IntsAre vs b → a = b
  | _, _, _, .nil, .nil => rfl
  | _, _, _, .cons n t h, .cons _ _ h' => by rw [ints_inj h h']
theorem IsTI.inj {h : Heap} {v : Value} {l l' : List Int} (x : IsTI h v l) (y : IsTI h v l') : l = l' := by
  obtain ⟨a, o, its, n, e, ho, hc, hd, hi⟩ := x
  obtain ⟨a', o', its', n', e', ho', hc', hd', hi'⟩ := y
  rw [e] at e'; cases e'
  rw [ho] at ho'; cases ho'
  rw [hd] at hd'; injection hd' with h1 h2
  subst h1
  exact ints_inj hi hi'
section
variable {prog : Program} {w : World} {A : Around} {E : Value → Shared → Prop} {s : Shared}
theorem lex_go {fin : Bool} : ∀ {us ws : List Value} {a b : List Int} (i : Nat), IntsAre us a → IntsAre ws b → (fin = decide (us.length < ws.length)) →
    PySem.W.KatLex prog w A true fin (fun r s' => s' = s ∧ r = lexL a b) (us.zip ws) i s
  | _, _, _, _, i, .nil, .nil, e => by
    refine PySem.W.kat_nil ⟨rfl, ?_⟩
    rw [e]; rfl
  | _, _, _, _, i, .nil, .cons m t h, e => by
    refine PySem.W.kat_nil ⟨rfl, ?_⟩
    rw [e]; rfl
  | _, _, _, _, i, .cons m t h, .nil, e => by
    refine PySem.W.kat_nil ⟨rfl, ?_⟩
    rw [e]; rfl
  | _, _, _, _, i, .cons x t h, .cons y u h', e => by
    rw [List.zip_cons_cons]
    refine PySem.W.kat_cons (SeqAt.EqAt.int_int x t y u prog w _ _ ?_)
    refine PySem.W.kat_go (fun e1 => ?_) (fun e1 => ?_)
    · have ex : x = y := by simpa using e1
      have ih := lex_go (fin := fin) (i + 1) h h' (by rw [e]; simp)
      refine PySem.W.kat_yes ?_
      unfold lexL
      rw [if_pos ex]
      exact ih
    · have ex : ¬ x = y := by simpa using e1
      have e3 : ∀ a b, lexL (x :: a) (y :: b) = decide (x < y) := fun a b => if_neg ex
      refine PySem.W.kat_no ?_
      cases hb : (true && i == 0) with
      | true => exact oneLt_int ⟨rfl, (e3 _ _).symm⟩
      | false => exact PySem.W.kat_one _ _ (PyProof.Rows.lt_int (show s = s ∧ decide (x < y) = _ from ⟨rfl, (e3 _ _).symm⟩))
theorem tup_cmp {vs : List Value} {k : Value → List Int} (hp : ∀ v ∈ vs, IsTI s.heap v (k v)) : SrtO.Cmp prog w A s (tuples' true) (fun p => p.1 ∈ vs) (SrtO.lt2 fun v u => lexL (k v) (k u)) := by
  intro p q hm hm'
  obtain ⟨a, o, its, n, e, ho, hc, hd, hi⟩ := hp _ hm
  obtain ⟨a', o', its', n', e', ho', hc', hd', hi'⟩ := hp _ hm'
  show wpAny (model prog w) A (keyLt' (tuples' true) p.1 q.1) (fun r s' => s' = s ∧ r = lexL (k p.1) (k q.1)) (fun _ _ => False) s
  generalize k p.1 = x at hi ⊢
  generalize k q.1 = y at hi' ⊢
  rw [e, e']
  refine PySem.W.kat_lt ho hd ho' hd' ?_
  exact lex_go 0 hi hi' (by simp)
theorem tups_firsts {h : Heap} {k : Value → List Int} : ∀ {vs : List Value}, (∀ v ∈ vs, IsTI h v (k v) ∧ k v ≠ []) → ∃ fs, PySem.W.KatTups h vs fs ∧ fs.length = vs.length ∧ ∀ f ∈ fs, ∃ x t, f = Value.int x t
  | [], _ => ⟨[], PySem.W.KatTups.nil, rfl, fun f hf => by cases hf⟩
  | v :: vs, hp => by
    obtain ⟨fs, h1, h2, h3⟩ := tups_firsts (vs := vs) fun u hu => hp u (List.mem_cons_of_mem _ hu)
    obtain ⟨⟨a, o, its, n, e, ho, hc, hd, hi⟩, hne⟩ := hp v List.mem_cons_self
    obtain ⟨x, t, hx⟩ : ∃ x t, its[0]? = some (Value.int x t) := by
      have e0 : its[0]? = its.toList[0]? := by rw [Array.getElem?_toList]
      rw [e0]
      cases hl : its.toList with
      | nil => rw [hl] at hi; cases hk : k v with
        | nil => exact absurd hk hne
        | cons z zs => rw [hk] at hi; cases hi
      | cons u us => rw [hl] at hi; cases hk : k v with
        | nil => exact absurd hk hne
        | cons z zs => rw [hk] at hi; cases hi with
          | cons _ t _ => exact ⟨z, t, rfl⟩
    subst e
    refine ⟨.int x t :: fs, PySem.W.KatTups.cons ho hc hd hx h1, by simp [h2], fun f hf => ?_⟩
    rcases List.mem_cons.mp hf with rfl | hf
    · exact ⟨x, t, rfl⟩
    · exact h3 f hf
theorem tups_sortable {a : Addr} {vs : List Value} {k : Value → List Int} (h0 : 0 < vs.length) (hp : ∀ v ∈ vs, IsTI s.heap v (k v) ∧ k v ≠ []) (ha : ∀ o, s.heap.get? a = some o → o.cls ≠ .type "tuple") : SrtO.SortableO prog w A s a vs fun v u => lexL (k v) (k u) := by
  intro h' keep
  have hp' : ∀ v ∈ vs, IsTI h' v (k v) ∧ k v ≠ [] := fun v hm => ⟨(hp v hm).1.keeps fun b o e c => keep b o (fun z => by subst z; exact ha o e c) e, (hp v hm).2⟩
  obtain ⟨fs, h1, h2, h3⟩ := tups_firsts hp'
  refine ⟨tuples' true, fun Q E hq => ?_, tup_cmp fun v hm => (hp' v hm).1⟩
  refine PySem.W.kat_kind (T := .type "int") h1 (by omega) (fun f hm => ?_) (by rfl) ?_
  · obtain ⟨x, t, rfl⟩ := h3 f hm
    exact PySem.W.Looks.now
  · have e : (Value.type "int" != Value.type "tuple") = true := by first | decide +kernel | rfl | decide
    rw [e]
    exact hq
theorem swo_tups (k : Value → List Int) : SrtO.Swo fun v u => lexL (k v) (k u) :=
  ⟨fun x y h => lexL_asym h, fun x y z h1 h2 => lexL_neg h2 h1⟩
end

theorem ints_rel0 {m : List Addr} {H : Hp} : ∀ {vs : List Val} {xs : List V} {l : List Int}, intsV vs = some l → RVs m H vs xs → xs = l.map V.int
  | [], _, _, h, .nil => by cases h; rfl
  | v :: vs, _, _, h, .cons a b => by
    cases a with
    | int i =>
      simp only [intsV] at h
      split at h
      · rename_i l h2
        cases h
        rw [List.map_cons, ints_rel0 h2 b]
      · cases h
    | _ => cases h
theorem sort_out {X : Cx} {pins : List (Addr × PySem.Obj)} {σ : L2.St} {H : Hp} {s : Shared} {m : List Addr} (I : Inv X pins σ H s) : ∀ {ls : List (List Int)} {zs : List Val} {ys : List V} {its : List Value}, mapO tupV zs = some ls → RVs m H zs ys → Vals ys its →
    its.length = ls.length ∧ (∀ (i : Nat) (l : List Int) (v : Value), ls[i]? = some l → its[i]? = some v → IsTI s.heap v l ∧ ∃ a, v = .ref a ∧ H a = some (.tup (l.map V.int)))
  | ls, [], _, _, h, .nil, .nil => by cases h; exact ⟨rfl, fun i l v q => by simp at q⟩
  | ls, z :: zs, _, _, h, .cons r rr, .cons q qq => by
    obtain ⟨l, ls', h1, h2, rfl⟩ := mapO_cons h
    obtain ⟨e1, e2⟩ := sort_out I h2 rr qq
    refine ⟨by simp [e1], fun i l' v hi hv => ?_⟩
    cases i with
    | succ i => exact e2 i l' v hi hv
    | zero =>
      cases hi
      cases hv
      cases z with
      | tup xs =>
        cases r with
        | @tup _ a ws hb r2 =>
          cases q
          have ew := ints_rel0 h1 r2
          subst ew
          obtain ⟨its', rv, ⟨o, ho, hc, n, hd⟩, _⟩ := I.tuple (SqT.of hb)
          exact ⟨⟨a, o, its'.toArray, n, rfl, ho, hc, hd, by simpa using intsAre_of rv⟩, a, rfl, hb⟩
      | _ => cases h1
theorem sort_rel {m : List Addr} {H : Hp} {k : Value → List Int} : ∀ {out : List Value}, (∀ v ∈ out, ∃ a, v = Value.ref a ∧ H a = some (.tup ((k v).map V.int))) → ∃ vs : List V, Vals vs out ∧ RVs m H ((out.map k).map fun l => .tup (l.map .int)) vs
  | [], _ => ⟨[], .nil, .nil⟩
  | v :: out, h => by
    obtain ⟨vs, h1, h2⟩ := sort_rel (m := m) (out := out) fun u hu => h u (List.mem_cons_of_mem _ hu)
    obtain ⟨a, e, ha⟩ := h v List.mem_cons_self
    exact ⟨.ref a :: vs, .cons e h1, .cons (.tup ha (rvs_ints _)) h2⟩
theorem sortI_uniq {l ns : List Int} (h1 : ns.Perm l) (h2 : ns.Pairwise (· ≤ ·)) : ns = sortI l := by
  unfold sortI
  refine List.Perm.eq_of_pairwise (fun a b _ _ x y => Int.le_antisymm x y) h2 ?_ (h1.trans (List.mergeSort_perm l _).symm)
  refine (List.pairwise_mergeSort (fun a b c x y => ?_) (fun a b => ?_) l).imp fun h => of_decide_eq_true h
  · simp only [decide_eq_true_eq] at x y ⊢; omega
  · simp only [Bool.or_eq_true, decide_eq_true_eq]; omega
theorem intKeys_some {kvs : List (Key × Val)} : ∀ {l : List Int}, intKeys kvs = some l → kvs.map (·.1) = l.map Sum.inl := by
  induction kvs with
  | nil => intro l h; cases h; rfl
  | cons kv kvs ih =>
    intro l h
    obtain ⟨k, v⟩ := kv
    cases k with
    | inl i =>
      simp only [intKeys] at h
      split at h
      · rename_i l' e
        cases h
        rw [List.map_cons, ih e, List.map_cons]
      · cases h
    | inr x => cases h
theorem rk_keys {κ : Type} {m : List Addr} {H : Hp} : ∀ {v : List (κ × Val)} {x : List (κ × V)}, RK m H v x → x.map (·.1) = v.map (·.1)
  | _, _, .nil => rfl
  | _, _, .cons _ b => by rw [List.map_cons, List.map_cons, rk_keys b]
theorem ok_sorted {X : Cx} (hcm : X.calm = true) : CallR X (.builtin "sorted") (fun xs H Q => ∃ m S vs v S', RS X.K m S H ∧ RVs m H vs xs ∧ sortB vs S = some (v, S') ∧ K1 X.K m H v S' Q) := by
  rintro pins s σ H xs us Q I r ⟨m, S, vs, v, S', hs, rv, h, kq⟩
  match vs, rv, h with
  | [.ref n], rv, h =>
    cases rv with
    | cons r1 r2 =>
      cases r2
      cases r1 with
      | @ref _ p hm =>
        cases r with
        | cons q1 q2 =>
          cases q2
          cases q1
          simp only [sortB] at h
          split at h
          · rename_i lk zs eS
            split at h
            · rename_i ls el
              split at h
              · rename_i hc
                obtain ⟨hsz, rfl, rfl⟩ := newL_some h
                have ro := hs.at eS hm
                obtain ⟨ys, hq, ry⟩ : ∃ ys, SqL X.K H p ys ∧ RVs m H zs ys := by
                  cases lk with
                  | false => obtain ⟨ys, h1, h2⟩ := ro; exact ⟨ys, SqL.of h1, h2⟩
                  | true => exact ro
                obtain ⟨its, vl, pl, hz⟩ := I.list hq
                obtain ⟨hlen, hall⟩ := sort_out I el ry vl
                classical
                have hk : ∃ k : Value → List Int, its.map k = ls ∧ ∀ v ∈ its, IsTI s.heap v (k v) ∧ ∃ a, v = Value.ref a ∧ H a = some (.tup ((k v).map V.int)) := by
                  refine ⟨fun v => if h : ∃ l, IsTI s.heap v l then Classical.choose h else [], ?_, fun v hv => ?_⟩
                  · refine List.ext_getElem? fun i => ?_
                    rw [List.getElem?_map]
                    by_cases hi : i < its.length
                    · have e1 := List.getElem?_eq_getElem hi
                      have e2 := List.getElem?_eq_getElem (show i < ls.length by omega)
                      have q := (hall i _ _ e2 e1).1
                      rw [e1, e2, Option.map_some, dif_pos ⟨_, q⟩]
                      exact congrArg some ((Classical.choose_spec (⟨_, q⟩ : ∃ l, IsTI s.heap its[i] l)).inj q)
                    · rw [List.getElem?_eq_none (by omega), List.getElem?_eq_none (by omega)]; rfl
                  · obtain ⟨i, hi, rfl⟩ := List.getElem_of_mem hv
                    have e1 := List.getElem?_eq_getElem hi
                    have e2 := List.getElem?_eq_getElem (show i < ls.length by omega)
                    obtain ⟨q, a, q2, q3⟩ := hall i _ _ e2 e1
                    have ex : ∃ l, IsTI s.heap its[i] l := ⟨_, q⟩
                    have sp := Classical.choose_spec ex
                    simp only [dif_pos ex]
                    refine ⟨sp, a, q2, ?_⟩
                    rw [sp.inj q]
                    exact q3
                obtain ⟨k, hk1, hk2⟩ := hk
                have hl := vl.length
                refine SrtO.sorted_ord (swo_tups k) pl.isList (by omega) (fun h2 h₁ a ha kk => ?_) fun out ho hb => ?_
                · refine tups_sortable (s := { s with heap := h₁ }) (by omega) (fun v hm' => ⟨((hk2 v hm').1).keeps fun b o e _ => (kk b o e).2, ?_⟩) fun o e => ?_
                  · have hc' : ls.all (fun l => !l.isEmpty) = true := by
                      rw [Bool.or_eq_true, decide_eq_true_eq] at hc
                      rcases hc with hc | hc
                      · exact hc
                      · omega
                    rw [← hk1] at hc'
                    have := List.all_eq_true.mp hc' (k v) (List.mem_map.mpr ⟨v, hm', rfl⟩)
                    intro q
                    rw [q] at this
                    cases this
                  · have e' : some o = some (seqObj "list" its.toArray 0) := e.symm.trans ha
                    cases e'
                    intro c
                    exact absurd (Value.type.inj c) (by decide)
                · have hperm : out.Perm its := hb.perm
                  have hsrt : SrtL (out.map k) := List.pairwise_map.mpr ho
                  have hks : out.map k = sortL ls := srt_uniq ((hperm.map k).trans ((List.Perm.of_eq hk1).trans (sortL_perm ls).symm)) hsrt (sortL_srt ls)
                  obtain ⟨ws, w1, w2⟩ := sort_rel (m := m) (H := H) (k := k) (out := out) fun v hv => (hk2 v (hperm.mem_iff.mp hv)).2
                  rw [hks] at w2
                  have hn : H (s.heap.objs.size + 1) = none := I.hok.fresh (Nat.le_succ _)
                  have hws : ws.length ≤ sizeLine := by rw [← w2.length]; exact hsz
                  obtain ⟨n0, hn0⟩ := PyProof.Rows.sortedAll_at s.heap its out.toArray
                  exact ⟨.ref (s.heap.objs.size + 1), _, I.laid (t' := s.toks) (o := .lst ws) (fun b o e => PyProof.Rows.sortedAll_old e) (Nat.le_succ _) ⟨hws, out, n0, w1, hn0⟩, rfl, kq.lst hs w2 hn⟩
              · cases h
            · split at h
              · rename_i l el
                obtain ⟨hsz, rfl, rfl⟩ := newL_some h
                have ro := hs.at eS hm
                obtain ⟨ys, hq, ry⟩ : ∃ ys, SqL X.K H p ys ∧ RVs m H zs ys := by
                  cases lk with
                  | false => obtain ⟨ys, h1, h2⟩ := ro; exact ⟨ys, SqL.of h1, h2⟩
                  | true => exact ro
                have ey := ints_rel0 el ry
                subst ey
                refine cr_sortedI pins s σ H [.ref p] [.ref p] Q I (.cons rfl .nil) ⟨p, l, rfl, hq, fun ns' p' h1 h2 hp => ?_⟩
                rw [sortI_uniq h1 h2]
                exact kq.lst hs (rvs_ints _) hp
              · cases h
          · rename_i lk kvs eS
            split at h
            · rename_i l el
              split at h
              · rename_i h64
                obtain ⟨hsz, rfl, rfl⟩ := newL_some h
                have ro := hs.at eS hm
                obtain ⟨ys, hd, ry⟩ : ∃ ys, Rd H p (.dK ys) ∧ RK m H kvs ys := by
                  cases lk with
                  | false => obtain ⟨ys, h1, h2⟩ := ro; exact ⟨ys, .inl h1, h2⟩
                  | true => obtain ⟨o, ys, h1, h2⟩ := ro; exact ⟨ys, .inr ⟨o, h1⟩, h2⟩
                refine call_sortedDI hcm pins s σ H [.ref p] [.ref p] Q I (.cons rfl .nil) ⟨p, ys, l, rfl, hd, (rk_keys ry).trans (intKeys_some el), h64, fun ns' p' h1 h2 hp => ?_⟩
                rw [sortI_uniq h1 h2]
                exact kq.lst hs (rvs_ints _) hp
              · cases h
            · cases h
          · cases h
end Rf

/-! RfMin: min(..) of a list of alike data. -/
namespace Rf
open PySem PySem.Spec PyProof.Rows L2
open PySem.W (dataLt minD alike alikeAll AlikeAll)
mutual
theorem toD_inj {S : Store} : ∀ (a b : Val) {k k' : Nat} {d : PyData}, pureV a = true → pureV b = true → toD k S a = some d → toD k' S b = some d → a = b
  | .non, b, k, k', d, ha, hb, h1, h2 => by
    cases k with
    | zero => cases h1
    | succ k =>
      cases k' with
      | zero => cases h2
      | succ k' =>
        have e := h2.trans h1.symm
        cases b with
        | ref n => cases hb
        | ftup n => cases hb
        | ty n => cases hb
        | tup ys =>
          simp only [toD] at e
          obtain ⟨es, _, e3⟩ := Option.map_eq_some_iff.mp e
          cases e3
        | _ => first | (simp only [toD, Option.some.injEq] at e; cases e; rfl) | (simp only [toD, Option.some.injEq] at e; cases e)
  | .bl x, b, k, k', d, ha, hb, h1, h2 => by
    cases k with
    | zero => cases h1
    | succ k =>
      cases k' with
      | zero => cases h2
      | succ k' =>
        have e := h2.trans h1.symm
        cases b with
        | ref n => cases hb
        | ftup n => cases hb
        | ty n => cases hb
        | tup ys =>
          simp only [toD] at e
          obtain ⟨es, _, e3⟩ := Option.map_eq_some_iff.mp e
          cases e3
        | _ => first | (simp only [toD, Option.some.injEq] at e; cases e; rfl) | (simp only [toD, Option.some.injEq] at e; cases e)
  | .int x, b, k, k', d, ha, hb, h1, h2 => by
    cases k with
    | zero => cases h1
    | succ k =>
      cases k' with
      | zero => cases h2
      | succ k' =>
        have e := h2.trans h1.symm
        cases b with
        | ref n => cases hb
        | ftup n => cases hb
        | ty n => cases hb
        | tup ys =>
          simp only [toD] at e
          obtain ⟨es, _, e3⟩ := Option.map_eq_some_iff.mp e
          cases e3
        | _ => first | (simp only [toD, Option.some.injEq] at e; cases e; rfl) | (simp only [toD, Option.some.injEq] at e; cases e)
  | .str x, b, k, k', d, ha, hb, h1, h2 => by
    cases k with
    | zero => cases h1
    | succ k =>
      cases k' with
      | zero => cases h2
      | succ k' =>
        have e := h2.trans h1.symm
        cases b with
        | ref n => cases hb
        | ftup n => cases hb
        | ty n => cases hb
        | tup ys =>
          simp only [toD] at e
          obtain ⟨es, _, e3⟩ := Option.map_eq_some_iff.mp e
          cases e3
        | _ => first | (simp only [toD, Option.some.injEq] at e; cases e; rfl) | (simp only [toD, Option.some.injEq] at e; cases e)
  | .tup xs, b, k, k', d, ha, hb, h1, h2 => by
    cases k with
    | zero => cases h1
    | succ k =>
      cases k' with
      | zero => cases h2
      | succ k' =>
        simp only [toD] at h1
        obtain ⟨ds, e1, rfl⟩ := Option.map_eq_some_iff.mp h1
        cases b with
        | tup ys =>
          simp only [toD] at h2
          obtain ⟨es, e2, e3⟩ := Option.map_eq_some_iff.mp h2
          cases e3
          rw [toDs_inj xs ys ha hb e1 e2]
        | ref n => cases hb
        | ftup n => cases hb
        | ty n => cases hb
        | _ => simp [toD] at h2
  | .ftup _, b, _, _, _, ha, _, _, _ => by cases ha
  | .ref _, b, _, _, _, ha, _, _, _ => by cases ha
  | .ty _, b, _, _, _, ha, _, _, _ => by cases ha
theorem toDs_inj {S : Store} : ∀ (a b : List Val) {k k' : Nat} {ds : List PyData}, pureVs a = true → pureVs b = true → mapO (toD k S) a = some ds → mapO (toD k' S) b = some ds → a = b
  | [], [], _, _, _, _, _, _, _ => rfl
  | [], y :: ys, _, _, _, _, _, h1, h2 => by
    cases h1
    obtain ⟨_, _, _, _, e⟩ := mapO_cons h2
    cases e
  | x :: xs, [], _, _, _, _, _, h1, h2 => by
    cases h2
    obtain ⟨_, _, _, _, e⟩ := mapO_cons h1
    cases e
  | x :: xs, y :: ys, _, _, _, ha, hb, h1, h2 => by
    simp only [pureVs, Bool.and_eq_true] at ha hb
    obtain ⟨d, r, e1, e2, rfl⟩ := mapO_cons h1
    obtain ⟨d', r', e3, e4, e5⟩ := mapO_cons h2
    cases e5
    rw [toD_inj x y ha.1 hb.1 e1 e3, toDs_inj xs ys ha.2 hb.2 e2 e4]
end
mutual
theorem rd_det {h : Heap} : ∀ (d d' : PyData) {v : Value} {as bs : List Addr}, alike d d' = true → Reads h v d as → Reads h v d' bs → d = d'
  | .none, d', v, as, bs, ha, r1, r2 => by
    cases d' <;> first | rfl | cases ha
  | .bool x, d', v, as, bs, ha, r1, r2 => by
    cases d' <;> first | (cases ha; done) | skip
    cases r1
    cases r2
    rfl
  | .int x, d', v, as, bs, ha, r1, r2 => by
    cases d' <;> first | (cases ha; done) | skip
    cases r1
    cases r2
    rfl
  | .str x, d', v, as, bs, ha, r1, r2 => by
    cases d' <;> first | (cases ha; done) | skip
    cases r1
    cases r2
    rfl
  | .list xs, d', v, as, bs, ha, r1, r2 => by
    cases d' <;> first | (cases ha; done) | skip
    rename_i ys
    cases r1 with
    | list h1 h2 h3 h4 =>
      cases r2 with
      | list g1 g2 g3 g4 =>
        rw [h1] at g1
        cases g1
        rw [h3] at g3
        injection g3 with g5 g6
        subst g5
        rw [rds_det xs ys (by simpa [alike] using ha) h4 g4]
  | .tuple xs, d', v, as, bs, ha, r1, r2 => by
    cases d' <;> first | (cases ha; done) | skip
    rename_i ys
    cases r1 with
    | tuple h1 h2 h3 h4 =>
      cases r2 with
      | tuple g1 g2 g3 g4 =>
        rw [h1] at g1
        cases g1
        rw [h3] at g3
        injection g3 with g5 g6
        subst g5
        rw [rds_det xs ys (by simpa [alike] using ha) h4 g4]
  | .dict xs, d', v, as, bs, ha, r1, r2 => by
    cases d' <;> cases ha
theorem rds_det {h : Heap} : ∀ (d d' : List PyData) {v : List Value} {as bs : List Addr}, alikeAll d d' = true → ReadsAll h v d as → ReadsAll h v d' bs → d = d'
  | [], d', v, as, bs, ha, r1, r2 => by
    cases r1
    cases r2
    rfl
  | x :: xs, d', v, as, bs, ha, r1, r2 => by
    cases r1 with
    | cons p1 p2 =>
      cases r2 with
      | cons q1 q2 =>
        have hc := PySem.W.alike_all_cons ha
        rw [rd_det x _ hc.1 p1 q1, rds_det xs _ hc.2 p2 q2]
end
theorem mapO_dOf {S : Store} : ∀ {xs : List Val} {ds : List PyData}, mapO (dataOf S) xs = some ds → ds = xs.map (dOf S) ∧ ∀ x ∈ xs, dataOf S x = some (dOf S x)
  | [], ds, h => by cases h; exact ⟨rfl, fun x hx => by cases hx⟩
  | x :: xs, ds, h => by
    obtain ⟨d, r, h1, h2, rfl⟩ := mapO_cons h
    obtain ⟨e1, e2⟩ := mapO_dOf h2
    have e : dOf S x = d := by unfold dOf; rw [h1]; rfl
    refine ⟨by rw [List.map_cons, e, ← e1], fun y hy => ?_⟩
    rcases List.mem_cons.mp hy with rfl | hy
    · rw [e]; exact h1
    · exact e2 y hy
def minF (S : Store) (x : Val) (xs : List Val) : Val := xs.foldl (fun a y => if dataLt (dOf S y) (dOf S a) then y else a) x
theorem minF_d {S : Store} : ∀ (xs : List Val) (x : Val), dOf S (minF S x xs) = minD (dOf S x) (xs.map (dOf S)) ∧ minF S x xs ∈ x :: xs
  | [], x => ⟨rfl, List.mem_singleton.mpr rfl⟩
  | y :: xs, x => by
    have ih := minF_d (S := S) xs (if dataLt (dOf S y) (dOf S x) then y else x)
    have e : minF S x (y :: xs) = minF S (if dataLt (dOf S y) (dOf S x) then y else x) xs := rfl
    rw [e]
    refine ⟨?_, ?_⟩
    · rw [ih.1, List.map_cons]
      unfold minD
      rw [List.foldl_cons]
      congr 1
      by_cases h : dataLt (dOf S y) (dOf S x) = true
      · rw [if_pos h, if_pos h]
      · rw [if_neg h, if_neg h]
    · rcases List.mem_cons.mp ih.2 with h | h
      · rw [h]
        split
        · exact List.mem_cons_of_mem _ List.mem_cons_self
        · exact List.mem_cons_self
      · exact List.mem_cons_of_mem _ (List.mem_cons_of_mem _ h)
theorem pure_mem : ∀ {xs : List Val}, pureVs xs = true → ∀ x ∈ xs, pureV x = true
  | y :: xs, h, x, hx => by
    simp only [pureVs, Bool.and_eq_true] at h
    rcases List.mem_cons.mp hx with rfl | hx
    · exact h.1
    · exact pure_mem h.2 x hx
theorem dpall_of {K : PySem.W.Frag} {m : List Addr} {S : Store} {H : Hp} (s : RS K m S H) : ∀ {vs : List Val} {xs : List V} {ds : List PyData}, mapO (dataOf S) vs = some ds → RVs m H vs xs → DpAll K H xs ds
  | [], _, _, h, .nil => by cases h; exact .nil
  | v :: vs, _, _, h, .cons a b => by
    obtain ⟨d, r, h1, h2, rfl⟩ := mapO_cons h
    exact .cons (dp_of s 20 h1 a) (dpall_of s h2 b)
theorem ok_minL {X : Cx} {pins : List (Addr × PySem.Obj)} {σ : L2.St} {H : Hp} {s : Shared} {m : List Addr} {S : Store} {n : Nat} {p : Addr} {lk : Bool} {xs : List Val} {v : Val} {Q : VK} (hc : X.calm = true) (hu : X.A.units + 64 < cLine) (I : Inv X pins σ H s) (hs : RS X.K m S H) (hm : m[n]? = some p) (hS : S[n]? = some (.lst lk xs)) (h : minB S xs = some v)
    (k : K1 X.K m H v S Q) : wpAny (model X.prog X.w) X.A (call (.builtin "min") [.ref p]) (EP X pins σ Q) X.xe s := by
  cases xs with
  | nil => cases h
  | cons x xs =>
    simp only [minB] at h
    split at h
    · rename_i ds e
      split at h
      · rename_i hc2
        cases h
        simp only [Bool.and_eq_true, decide_eq_true_eq] at hc2
        obtain ⟨⟨hp, hal⟩, hd⟩ := hc2
        obtain ⟨ed, ed2⟩ := mapO_dOf e
        obtain ⟨ys, hq, ry⟩ : ∃ ys, SqL X.K H p ys ∧ RVs m H (x :: xs) ys := by
          have ro := hs.at hS hm
          cases lk with
          | false => obtain ⟨ys, h1, h2⟩ := ro; exact ⟨ys, SqL.of h1, h2⟩
          | true => exact ro
        obtain ⟨its, vl, pl, hz⟩ := I.list hq
        obtain ⟨as, rr⟩ := Dp.readsAll I ds ys its (dpall_of hs e ry) vl
        have hA : AlikeAll ds := by
          unfold alikeB at hal
          rw [List.all_eq_true] at hal
          refine ⟨fun a ha b hb => ?_, fun a ha q => ?_⟩
          · have := hal a ha
            rw [Bool.and_eq_true] at this
            exact List.all_eq_true.mp this.1 b hb
          · have := hal a ha
            rw [Bool.and_eq_true, q] at this
            cases this.2
        rw [List.map_cons] at ed
        subst ed
        refine PySem.W.min_list_data (vs := its.toArray) (I.ok.hd hc) pl.isList (by simpa using rr) hA (by omega) fun i u h' tk bs hi r' hk => ?_
        have hi' : its[i]? = some u := by simpa using hi
        obtain ⟨z, hz1, hz2⟩ : ∃ z, ys[i]? = some z ∧ RelV z u := by
          have hil : i < its.length := (List.getElem?_eq_some_iff.mp hi').1
          have hyl : i < ys.length := by rw [vl.length]; exact hil
          have e1 : ys[i]? = some ys[i] := List.getElem?_eq_getElem hyl
          obtain ⟨u', hu', ru'⟩ := vl.get e1
          rw [hi'] at hu'
          cases hu'
          exact ⟨_, e1, ru'⟩
        obtain ⟨a, ha1, ha2⟩ : ∃ a, (x :: xs)[i]? = some a ∧ RV m H a z := by
          have hyl : i < ys.length := (List.getElem?_eq_some_iff.mp hz1).1
          have hxl : i < (x :: xs).length := by rw [ry.length]; exact hyl
          have e1 : (x :: xs)[i]? = some (x :: xs)[i] := List.getElem?_eq_getElem hxl
          obtain ⟨z', hz', rz'⟩ := ry.get e1
          rw [hz1] at hz'
          cases hz'
          exact ⟨_, e1, rz'⟩
        have hmem := List.mem_of_getElem? ha1
        obtain ⟨bs2, r2⟩ := Dp.reads I (dOf S a) z u (dp_of hs 20 (ed2 a hmem) ha2) hz2
        have r3 : Reads h' u (dOf S a) bs2 := Reads.keeps hk r2
        obtain ⟨q1, q2⟩ := minF_d (S := S) xs x
        have alk : alike (dOf S a) (dOf S (minF S x xs)) = true := by
          refine hA.1 _ ?_ _ ?_
          · rw [← List.map_cons]; exact List.mem_map_of_mem hmem
          · rw [← List.map_cons]; exact List.mem_map_of_mem q2
        rw [← q1] at r'
        have ee := rd_det _ _ alk r3 r'
        have e5 : a = minF S x xs := toD_inj (S := S) a _ (k := 20) (k' := 20) (pure_mem hp a hmem) (pure_mem hp _ q2) (ed2 a hmem) (by rw [ee]; exact ed2 _ q2)
        subst e5
        exact ⟨z, H, I.kept (t' := tk) hk, hz2, k.now hs ha2⟩
      · cases h
    · cases h
theorem ok_minT {X : Cx} {pins : List (Addr × PySem.Obj)} {σ : L2.St} {H : Hp} {s : Shared} {m : List Addr} {S : Store} {p : Addr} {xs : List Val} {ws : List V} {v : Val} {Q : VK} (hc : X.calm = true) (hu : X.A.units + 64 < cLine) (I : Inv X pins σ H s) (hs : RS X.K m S H) (hb : H p = some (.tup ws)) (ry : RVs m H xs ws) (h : minB S xs = some v)
    (k : K1 X.K m H v S Q) : wpAny (model X.prog X.w) X.A (call (.builtin "min") [.ref p]) (EP X pins σ Q) X.xe s := by
  cases xs with
  | nil => cases h
  | cons x xs =>
    simp only [minB] at h
    split at h
    · rename_i ds e
      split at h
      · rename_i hc2
        cases h
        simp only [Bool.and_eq_true, decide_eq_true_eq] at hc2
        obtain ⟨⟨hp, hal⟩, hd⟩ := hc2
        obtain ⟨ed, ed2⟩ := mapO_dOf e
        obtain ⟨its, vl, pl, hz⟩ := I.tuple (SqT.of hb)
        obtain ⟨as, rr⟩ := Dp.readsAll I ds ws its (dpall_of hs e ry) vl
        have hA : AlikeAll ds := by
          unfold alikeB at hal
          rw [List.all_eq_true] at hal
          refine ⟨fun a ha b hb => ?_, fun a ha q => ?_⟩
          · have := hal a ha
            rw [Bool.and_eq_true] at this
            exact List.all_eq_true.mp this.1 b hb
          · have := hal a ha
            rw [Bool.and_eq_true, q] at this
            cases this.2
        rw [List.map_cons] at ed
        subst ed
        refine PySem.W.min_tuple_data (vs := its.toArray) (I.ok.hd hc) pl (by simpa using rr) hA (by omega) fun i u h' tk bs hi r' hk => ?_
        have hi' : its[i]? = some u := by simpa using hi
        obtain ⟨z, hz1, hz2⟩ : ∃ z, ws[i]? = some z ∧ RelV z u := by
          have hil : i < its.length := (List.getElem?_eq_some_iff.mp hi').1
          have hyl : i < ws.length := by rw [vl.length]; exact hil
          have e1 : ws[i]? = some ws[i] := List.getElem?_eq_getElem hyl
          obtain ⟨u', hu', ru'⟩ := vl.get e1
          rw [hi'] at hu'
          cases hu'
          exact ⟨_, e1, ru'⟩
        obtain ⟨a, ha1, ha2⟩ : ∃ a, (x :: xs)[i]? = some a ∧ RV m H a z := by
          have hyl : i < ws.length := (List.getElem?_eq_some_iff.mp hz1).1
          have hxl : i < (x :: xs).length := by rw [ry.length]; exact hyl
          have e1 : (x :: xs)[i]? = some (x :: xs)[i] := List.getElem?_eq_getElem hxl
          obtain ⟨z', hz', rz'⟩ := ry.get e1
          rw [hz1] at hz'
          cases hz'
          exact ⟨_, e1, rz'⟩
        have hmem := List.mem_of_getElem? ha1
        obtain ⟨bs2, r2⟩ := Dp.reads I (dOf S a) z u (dp_of hs 20 (ed2 a hmem) ha2) hz2
        have r3 : Reads h' u (dOf S a) bs2 := Reads.keeps hk r2
        obtain ⟨q1, q2⟩ := minF_d (S := S) xs x
        have alk : alike (dOf S a) (dOf S (minF S x xs)) = true := by
          refine hA.1 _ ?_ _ ?_
          · rw [← List.map_cons]; exact List.mem_map_of_mem hmem
          · rw [← List.map_cons]; exact List.mem_map_of_mem q2
        rw [← q1] at r'
        have ee := rd_det _ _ alk r3 r'
        have e5 : a = minF S x xs := toD_inj (S := S) a _ (k := 20) (k' := 20) (pure_mem hp a hmem) (pure_mem hp _ q2) (ed2 a hmem) (by rw [ee]; exact ed2 _ q2)
        subst e5
        exact ⟨z, H, I.kept (t' := tk) hk, hz2, k.now hs ha2⟩
      · cases h
    · cases h
end Rf

/-! RfSum: sum(..) of a tuple of ints. -/
namespace Rf
open PySem PySem.Spec PyProof.Rows L2

theorem sum_tupG {prog : Program} {w : World} {A : Around} {E : Value → Shared → Prop} {s : Shared} {l : Addr} {xs : Array (Int × Tok)} {Q : Value → Shared → Prop} (hh : A.handled = none) (hl : s.heap.IsTuple l (intItems xs))
    (h : ∀ h' tk t', (∀ b o, s.heap.get? b = some o → h'.get? b = some o) → Q (.int (preSum (numAt xs) xs.size) t') { s with heap := h', toks := tk }) :
    wpAny (model prog w) A (call (.builtin "sum") [.ref l]) Q E s := by
  have hlt : l < s.heap.objs.size := by obtain ⟨_, e, _⟩ := hl; exact Heap.lt_size e
  refine call_sum_walkG (wpAny_pyIter_tuple hl ?_)
  refine ⟨_, [s.heap.objs.size, l], [s.heap.objs.size], _, _, _, numAt xs, rfl, Walks.tuple (A := A.in1) hh _ l (Nat.ne_of_lt hlt) (intItems xs), ⟨⟨_, Heap.get?_push_size _ rfl, rfl, rfl⟩, hl.push _⟩, fun b hb => ?_, (fun _ _ => intItems_at), fun h' tk t' hk => ?_⟩
  · show b < (s.heap.push _).objs.size
    rw [Heap.size_push]
    rcases List.mem_cons.mp hb with rfl | hb
    · exact Nat.lt_succ_self _
    · rcases List.mem_cons.mp hb with rfl | hb
      · exact Nat.lt_succ_of_lt hlt
      · cases hb
  · have := h h' tk t' fun b o e => hk b o (by
      intro hm
      rcases List.mem_cons.mp hm with rfl | hm
      · exact Nat.lt_irrefl _ (Heap.lt_size e)
      · cases hm) (Heap.get?_push_of_some _ e)
    simpa [intItems] using this
theorem cr_sumT {X : Cx} (hc : X.calm = true) : CallR X (.builtin "sum") (fun xs H Q => ∃ (a : Addr) (ns : List Int), xs = [.ref a] ∧ SqT X.K H a (ns.map V.int) ∧ Q (.int ns.sum) H) := by
  intro pins s σ H vs us Q I r h
  obtain ⟨a, ns, rfl, hs, q⟩ := h
  obtain ⟨its, rv, hl, _⟩ := I.tuple hs
  rw [Vals.ref1 r]
  have hi := rv.ints
  obtain ⟨xs, e⟩ := hi.allInts.items
  have hn : numsOf (intItems xs).toList = ns := by rw [← e]; exact hi.numsOf
  rw [nums_intItems] at hn
  rw [e] at hl
  refine sum_tupG (I.ok.hd hc) hl fun h' tk t' hk => ?_
  rw [preSum_eq, List.take_of_length_le (by simp), hn]
  exact ⟨.int _, H, I.kept hk, ⟨_, rfl⟩, q⟩
end Rf

/-! Rf3: comparisons, subscripts, built-in functions and methods over the model. -/
namespace Rf
open PySem PySem.Spec PyProof.Rows L2

def rC (K : PySem.W.Frag) (f : Val → Val → Store → Option Bool) : R2 := fun x y H Q => ∃ m S a b c, RS K m S H ∧ RV m H a x ∧ RV m H b y ∧ f a b S = some c ∧ Q (.bl c) H
def pyC : Cop → CmpOp
  | .eq => .Eq | .ne => .NotEq | .lt => .Lt | .le => .LtE | .gt => .Gt | .ge => .GtE | .is => .Is | .isnot => .IsNot | .isin => .In | .notin => .NotIn
section
variable {X : Cx}
theorem eqV_some {K : PySem.W.Frag} {m : List Addr} {S : Store} {H : Hp} {a b : Val} {x y : V} {c : Bool} (s : RS K m S H) (ra : RV m H a x) (rb : RV m H b y) (h : eqV a b S = some c) :
    ∃ d e, Dp K H x d ∧ Dp K H y e ∧ SeqAt.shaped d = true ∧ SeqAt.shaped e = true ∧ c = PyData.eqv d e := by
  unfold eqV at h
  split at h
  · rename_i d e h1 h2
    split at h
    · rename_i hs
      simp only [Bool.and_eq_true] at hs
      cases h
      exact ⟨d, e, dp_of s 20 h1 ra, dp_of s 20 h2 rb, hs.1, hs.2, rfl⟩
    · cases h
  · cases h
theorem inV_some {K : PySem.W.Frag} {m : List Addr} {S : Store} {H : Hp} {a b : Val} {x y : V} {c : Bool} (s : RS K m S H) (ra : RV m H a x) (rb : RV m H b y) (h : inV a b S = some c) :
    (∃ d ds, Dp K H x d ∧ (Dp K H y (.list ds) ∧ SeqAt.shaped (.list ds) = true ∨ Dp K H y (.tuple ds) ∧ SeqAt.shaped (.tuple ds) = true) ∧ SeqAt.shaped d = true ∧ c = ds.any fun z => PyData.eqv z d) ∨
    ∃ (n : Nat) (o : Obj) (p : Addr) (r : Option Val), y = .ref p ∧ m[n]? = some p ∧ S[n]? = some o ∧ dGet o a = some r ∧ c = r.isSome := by
  unfold inV at h
  cases rb with
  | ref hm =>
    rename_i n p
    simp only at h
    split at h
    · rename_i lk xs e
      split at h
      · rename_i d ds h1 h2
        split at h
        · rename_i hs
          simp only [Bool.and_eq_true] at hs
          cases h
          exact .inl ⟨d, ds, dp_of s 20 h1 ra, .inl ⟨dp_of s 20 h2 (.ref hm), hs.2⟩, hs.1, rfl⟩
        · cases h
      · cases h
    · rename_i o _ e
      obtain ⟨r, h1, h2⟩ := Option.map_eq_some_iff.mp h
      exact .inr ⟨n, o, p, r, rfl, hm, e, h1, h2.symm⟩
    · cases h
  | tup hb r2 =>
    simp only at h
    split at h
    · rename_i d ds h1 h2
      split at h
      · rename_i hs
        simp only [Bool.and_eq_true] at hs
        cases h
        exact .inl ⟨d, ds, dp_of s 20 h1 ra, .inr ⟨dp_of s 20 h2 (.tup hb r2), hs.2⟩, hs.1, rfl⟩
      · cases h
    · cases h
  | _ => cases h
section
variable {X : Cx}
theorem op_inT (hu : X.A.units + 65 < cLine) (neg : Bool) : OpR X (compareOp (if neg then .NotIn else .In)) (fun x y H Q => ∃ d ds, Dp X.K H x d ∧ Dp X.K H y (.tuple ds) ∧ SeqAt.shaped d = true ∧ SeqAt.shaped (.tuple ds) = true ∧ Q (.bl (if neg then !ds.any fun z => PyData.eqv z d else ds.any fun z => PyData.eqv z d)) H) := by
  rintro pins s σ H x y v u Q I rx ry ⟨d, ds, hd, he, sd, se, q⟩
  obtain ⟨as, r1⟩ := Dp.reads I d x v hd rx
  obtain ⟨bs, r2⟩ := Dp.reads I (.tuple ds) y u he ry
  have hr : X.A.units + 1 + min (PyData.depthAll ds) d.depth < cLine := by
    have := SeqAt.depth_of_shaped sd
    have := Nat.min_le_right (PyData.depthAll ds) d.depth
    omega
  cases neg with
  | false => exact SeqAt.in_tuple_reads r2 r1 (SeqAt.canLay_of_shaped se) (SeqAt.canLay_of_shaped sd) hr ⟨.bl _, H, I, rfl, q⟩
  | true => exact SeqAt.notIn_tuple_reads r2 r1 (SeqAt.canLay_of_shaped se) (SeqAt.canLay_of_shaped sd) hr ⟨.bl _, H, I, rfl, q⟩
end
theorem isNone {m : List Addr} {H : Hp} {a : Val} {x : V} (r : RV m H a x) (h : a ≠ .non) : x ≠ .non := by
  cases r <;> first | exact absurd rfl h | (intro z; cases z)
theorem ok_cmp (hu : X.A.units + 65 < cLine) (op : Cop) : OpR X (compareOp (pyC op)) (rC X.K (cmpV op)) := by
  intro pins s σ H x y v u Q I rx ry h
  obtain ⟨m, S, a, b, c, hs, ra, rb, h, k⟩ := h
  cases op with
  | eq =>
    obtain ⟨d, e, h1, h2, h3, h4, rfl⟩ := eqV_some hs ra rb h
    exact op_eqD (by omega) pins s σ H x y v u Q I rx ry ⟨d, e, h1, h2, h3, h4, k⟩
  | ne =>
    obtain ⟨c', h', rfl⟩ := Option.map_eq_some_iff.mp h
    obtain ⟨d, e, h1, h2, h3, h4, rfl⟩ := eqV_some hs ra rb h'
    exact op_neD (by omega) pins s σ H x y v u Q I rx ry ⟨d, e, h1, h2, h3, h4, k⟩
  | lt =>
    cases ra <;> cases rb <;> first | (cases h; done) | skip
    cases h
    exact op_lt pins s σ H _ _ v u Q I rx ry ⟨_, _, rfl, rfl, k⟩
  | le =>
    cases ra <;> cases rb <;> first | (cases h; done) | skip
    cases h
    exact op_le pins s σ H _ _ v u Q I rx ry ⟨_, _, rfl, rfl, k⟩
  | gt =>
    cases ra <;> cases rb <;> first | (cases h; done) | skip
    cases h
    exact op_gt pins s σ H _ _ v u Q I rx ry ⟨_, _, rfl, rfl, k⟩
  | ge =>
    cases ra <;> cases rb <;> first | (cases h; done) | skip
    cases h
    exact op_ge pins s σ H _ _ v u Q I rx ry ⟨_, _, rfl, rfl, k⟩
  | is =>
    by_cases hb : b = .non
    · subst hb
      cases rb
      by_cases ha : a = .non
      · subst ha
        cases ra
        cases h
        exact op_isN pins s σ H _ _ v u Q I rx ry ⟨rfl, by simpa using k⟩
      · have hx := isNone ra ha
        have e : c = false := by
          cases a <;> first | exact absurd rfl ha | (cases h; rfl)
        subst e
        exact op_isN pins s σ H _ _ v u Q I rx ry ⟨rfl, by simpa [hx] using k⟩
    · cases ra <;> cases rb <;> first | exact absurd rfl hb | (cases h; done) | skip
      cases h
      exact op_isBl pins s σ H _ _ v u Q I rx ry ⟨_, _, rfl, rfl, k⟩
  | isnot =>
    by_cases hb : b = .non
    · subst hb
      cases rb
      by_cases ha : a = .non
      · subst ha
        cases ra
        cases h
        exact op_notN pins s σ H _ _ v u Q I rx ry ⟨rfl, by simpa using k⟩
      · have hx := isNone ra ha
        have e : c = true := by
          cases a <;> first | exact absurd rfl ha | (cases h; rfl)
        subst e
        exact op_notN pins s σ H _ _ v u Q I rx ry ⟨rfl, by simpa [hx] using k⟩
    · cases ra <;> cases rb <;> first | exact absurd rfl hb | (cases h; done) | skip
      cases h
      exact op_notBl pins s σ H _ _ v u Q I rx ry ⟨_, _, rfl, rfl, k⟩
  | isin =>
    rcases inV_some hs ra rb h with ⟨d, ds, h1, ⟨h2, h4⟩ | ⟨h2, h4⟩, h3, rfl⟩ | ⟨n, o, p, r, rfl, h1, h2, h3, rfl⟩
    · exact op_inD hu pins s σ H x y v u Q I rx ry ⟨d, ds, h1, h2, h3, h4, k⟩
    · exact op_inT hu false pins s σ H x y v u Q I rx ry ⟨d, ds, h1, h2, h3, h4, k⟩
    · cases ry
      exact in_dict (by omega) I hs h1 h2 h3 ra rx fun s' I' => ⟨.bl r.isSome, H, I', rfl, k⟩
  | notin =>
    obtain ⟨c', h', rfl⟩ := Option.map_eq_some_iff.mp h
    rcases inV_some hs ra rb h' with ⟨d, ds, h1, ⟨h2, h4⟩ | ⟨h2, h4⟩, h3, rfl⟩ | ⟨n, o, p, r, rfl, h1, h2, h3, rfl⟩
    · exact op_notInD hu pins s σ H x y v u Q I rx ry ⟨d, ds, h1, h2, h3, h4, k⟩
    · exact op_inT hu true pins s σ H x y v u Q I rx ry ⟨d, ds, h1, h2, h3, h4, k⟩
    · cases ry
      exact notin_dict (by omega) I hs h1 h2 h3 ra rx fun s' I' => ⟨.bl (!r.isSome), H, I', rfl, k⟩

/-! ### subscripts -/
theorem RO.sq {K : PySem.W.Frag} {m : List Addr} {H : Hp} {a : Addr} {lk : Bool} {xs : List Val} (r : RO K m H a (.lst lk xs)) : ∃ ys, SqL K H a ys ∧ RVs m H xs ys := by
  cases lk with
  | true => exact r
  | false => obtain ⟨ys, h, r⟩ := r; exact ⟨ys, .of h, r⟩
theorem RO.rd {K : PySem.W.Frag} {m : List Addr} {H : Hp} {a : Addr} {lk : Bool} {kvs : List (Key × Val)} (r : RO K m H a (.dk lk kvs)) : ∃ ys, Rd H a (.dK ys) ∧ RK m H kvs ys := by
  cases lk with
  | true => obtain ⟨o, ys, h, r⟩ := r; exact ⟨ys, .inr ⟨o, h⟩, r⟩
  | false => obtain ⟨ys, h, r⟩ := r; exact ⟨ys, .inl h, r⟩
def rX (K : PySem.W.Frag) : R2 := fun x y H Q => ∃ m S a b v, RS K m S H ∧ RV m H a x ∧ RV m H b y ∧ ixV a b S = some v ∧ ∀ z, RV m H v z → Q z H
theorem ok_ix (hu : X.A.units + 1 < cLine) : IxR X (rX X.K) := by
  intro value slice pins s σ H x y v u Q I rx ry h hsub
  obtain ⟨m, S, a, b, w, hs, ra, rb, h, k⟩ := h
  cases ra with
  | tup ha r =>
    cases rb with
    | int i =>
      obtain ⟨z, h1, h2⟩ := r.at h
      exact ix_tup value slice pins s σ H _ _ v u Q I rx ry ⟨_, _, i, z, rfl, rfl, .of ha, h1, k z h2⟩ hsub
    | _ => cases h
  | ftup ha hc r =>
    cases rb with
    | int i =>
      obtain ⟨z, h1, h2⟩ := r.at h
      exact ix_tup value slice pins s σ H _ _ v u Q I rx ry ⟨_, _, i, z, rfl, rfl, .inl (.inr ⟨_, ha⟩), h1, k z h2⟩ hsub
    | _ => cases h
  | str z =>
    cases rb with
    | int i =>
      simp only [ixV] at h
      split at h
      · obtain ⟨c, h1, rfl⟩ := Option.map_eq_some_iff.mp h
        exact ix_str value slice pins s σ H _ _ v u Q I rx ry ⟨z, i, c, rfl, rfl, by assumption, h1, k _ (.str _)⟩ hsub
      · cases h
    | _ => cases h
  | ref hm =>
    rename_i n p
    simp only [ixV] at h
    split at h
    · rename_i lk xs e
      obtain ⟨ys, h1, r1⟩ := (hs.at e hm).sq
      cases rb with
      | int i =>
        obtain ⟨z, h2, h3⟩ := r1.at h
        exact ix_list value slice pins s σ H _ _ v u Q I rx ry ⟨p, ys, i, z, rfl, rfl, h1, h2, k z h3⟩ hsub
      | _ => cases h
    · rename_i o _ e
      split at h
      · rename_i w' hd
        cases h
        obtain rfl : v = Value.ref p := rx
        have ty : s.TypeIs (.ref p) "dict" := by
          rcases dget_rel hs hm e hd rb with ⟨r', g, _⟩ | ⟨q, _⟩
          · exact dict_typeIs I g
          · cases q
        have hT := ty
        unfold subscriptTail
        refine wpAny_bind ?_
        rw [getitemInPython_of_ne hT.not_modules]
        refine wpAny_bind (wpAny_specialOf hT PySem.F.slot_dict_getitem.lookup ?_)
        have fin : wpAny (model X.prog X.w) X.A (subscripted slice false (.ref p) u) (fun r s₃ => wpAny (model X.prog X.w) X.A (letTemporaryGo value (.ref p) r >>= fun _ => pure r) (EP X pins σ Q) X.xe s₃) X.xe s := by
          rw [hsub]
          exact wpAny_operating (item_dict hu I hs hm e hd rb ry fun z w'' s' rz rw' I' => wpAny_bind (wpAny_letTemporaryGo (wpAny_pure ⟨z, H, I', rw', k z rz⟩)))
        first
          | exact wpAny_pure (wpAny_bind fin)
          | exact wpAny_bind (wpAny_pure (wpAny_bind fin))
          | exact wpAny_bind fin
      · cases h
    · cases h
  | _ => cases h
def rSl (K : PySem.W.Frag) : V → Option Int → Option Int → Hp → VK → Prop := fun x lo hi H Q => ∃ m S a v S', RS K m S H ∧ RV m H a x ∧ slV a lo hi S = some (v, S') ∧ K1 K m H v S' Q
theorem cut_whole {α : Type} {xs : List α} {lo hi : Option Int} (h : HT.sIx xs.length 0 lo = 0 ∧ HT.sIx xs.length xs.length hi = xs.length) : cut xs lo hi = xs := by
  unfold cut
  rw [h.1, h.2]
  simp
theorem ok_sl : SlR X (rSl X.K) := by
  intro pins s σ H x v vl vu lo hi sl Q I rx hsl pl pu h
  obtain ⟨m, S, a, w, S', hs, ra, h, k⟩ := h
  cases ra with
  | tup ha r =>
    rename_i xs p ys
    cases h
    refine sl_tupA pins s σ H _ v vl vu lo hi sl Q I rx hsl pl pu ⟨p, ys, rfl, .of ha, fun hw => ?_, fun _ q hq => k.tup hs (r.cut lo hi) hq⟩
    rw [← r.length] at hw
    rw [cut_whole hw] at k
    exact k.now hs (.tup ha r)
  | ref hm =>
    rename_i n p
    simp only [slV] at h
    split at h
    · rename_i lk xs e
      obtain ⟨ys, h1, r1⟩ := (hs.at e hm).sq
      obtain ⟨_, rfl, rfl⟩ := newL_some h
      exact sl_list pins s σ H _ v vl vu lo hi sl Q I rx hsl pl pu ⟨p, ys, rfl, h1, fun q hq => k.lst hs (r1.cut lo hi) hq⟩
    · cases h
  | _ => cases h

/-! ### built-in functions -/
def rCB (K : PySem.W.Frag) (f : List Val → Store → R Val) : List V → Hp → VK → Prop := fun xs H Q => ∃ m S vs v S', RS K m S H ∧ RVs m H vs xs ∧ f vs S = some (v, S') ∧ K1 K m H v S' Q
theorem ints_rel {m : List Addr} {H : Hp} : ∀ {vs : List Val} {xs : List V} {l : List Int}, intsV vs = some l → RVs m H vs xs → xs = l.map V.int
  | [], _, _, h, .nil => by cases h; rfl
  | v :: vs, _, _, h, .cons a b => by
    cases a with
    | int i =>
      simp only [intsV] at h
      split at h
      · rename_i l h2
        cases h
        rw [List.map_cons, ints_rel h2 b]
      · cases h
    | _ => cases h
theorem bls_rel {m : List Addr} {H : Hp} : ∀ {vs : List Val} {xs : List V} {l : List Bool}, blsV vs = some l → RVs m H vs xs → xs = l.map V.bl
  | [], _, _, h, .nil => by cases h; rfl
  | v :: vs, _, _, h, .cons a b => by
    cases a with
    | bl i =>
      simp only [blsV] at h
      split at h
      · rename_i l h2
        cases h
        rw [List.map_cons, bls_rel h2 b]
      · cases h
    | _ => cases h
theorem RVs.one {m : List Addr} {H : Hp} {v : Val} {xs : List V} (r : RVs m H [v] xs) : ∃ x, xs = [x] ∧ RV m H v x := by
  cases r with
  | cons a b => cases b; exact ⟨_, rfl, a⟩
theorem RVs.two {m : List Addr} {H : Hp} {v w : Val} {xs : List V} (r : RVs m H [v, w] xs) : ∃ x y, xs = [x, y] ∧ RV m H v x ∧ RV m H w y := by
  cases r with
  | cons a b => obtain ⟨y, rfl, q⟩ := b.one; exact ⟨_, y, rfl, a, q⟩
def idB : Bi → Value
  | .len => .builtin "len" | .int => .type "int" | .abs => .builtin "abs" | .max => .builtin "max" | .min => .builtin "min" | .sum => .builtin "sum" | .tuple => .type "tuple" | .list => .type "list"
  | .repr => .builtin "repr" | .all => .builtin "all" | .any => .builtin "any" | .isi => .builtin "isinstance" | .sorted => .builtin "sorted" | .dict => .type "dict"
theorem ok_repr (hu : X.A.units + 64 < cLine) (hg : X.A.guards = some []) : CallR X (.builtin "repr") (rCB X.K (fun vs S => match vs with | [v] => reprV v S | _ => none)) := by
  intro pins s σ H xs us Q I r h
  obtain ⟨m, S, vs, v, S', hs, rv, h, k⟩ := h
  match vs, rv, h with
  | [w], rv, h =>
    obtain ⟨x, rfl, ra⟩ := rv.one
    obtain ⟨u, rfl, ru⟩ := vals1 r
    simp only [reprV] at h
    split at h
    · rename_i d e
      split at h
      · rename_i hok
        cases h
        unfold reprOk at hok
        simp only [Bool.and_eq_true, Bool.not_eq_true', decide_eq_true_eq] at hok
        obtain ⟨⟨⟨h1, h2⟩, h3⟩, h4⟩ := hok
        have dp := dp_of hs 20 e ra
        have q : Q (.str d.shown) H := k.now hs (.str _)
        obtain ⟨as, rd⟩ := Dp.reads I d x u dp ru
        have big : ∀ a, u = .ref a → wpAny (model X.prog X.w) X.A (call (.builtin "repr") [u]) (EP X pins σ Q) X.xe s := fun a eu => by
          subst eu
          exact repr_of_reads' rd h1 (PyData.noDict_hsm h2) hg (by omega) (fun _ _ e => e) (fun h' u' tk hk => ⟨.str d.shown, H, I.kept hk, ⟨_, rfl⟩, q⟩) h4
        cases rd with
        | none => exact PySem.P.repr_of_none ⟨.str _, H, I.tok _, ⟨_, rfl⟩, q⟩
        | bool b => exact PySem.P.repr_of_bool ⟨.str _, H, I.tok _, ⟨_, rfl⟩, q⟩
        | int i t => exact PySem.P.repr_of_int (of_decide_eq_true h1) ⟨.str _, H, I.tok _, ⟨_, rfl⟩, q⟩
        | str z t => exact PySem.P.repr_of_str ⟨.str _, H, I.tok _, ⟨_, rfl⟩, q⟩ h4
        | list => exact big _ rfl
        | tuple => exact big _ rfl
        | dict => exact big _ rfl
      · cases h
    · cases h
theorem tyX_of {K : PySem.W.Frag} {m : List Addr} {S : Store} {H : Hp} {v : Val} {x : V} {t : String} (s : RS K m S H) (r : RV m H v x) (h : tyOf v S = some t) : TyX K H x (.type t) := by
  cases r with
  | non => cases h; exact .base .non
  | bl b => cases h; exact .base (.bl b)
  | int i => cases h; exact .base (.int i)
  | str z => cases h; exact .base (.str z)
  | ty n => cases h
  | ftup _ _ _ => cases h
  | tup hb _ => cases h; exact .base (.tup hb)
  | ref hm =>
    simp only [tyOf] at h
    split at h
    · rename_i lk xs e
      cases h
      obtain ⟨ys, hq, _⟩ := (s.at e hm).sq
      rcases hq with (hq | ⟨o, hq⟩) | ⟨o, its, n, hk, hc, _⟩
      · exact .base (.lst hq)
      · exact .base (.frz hq)
      · exact .kList hk hc
    · rename_i lk kvs e
      cases h
      have ro := s.at e hm
      cases lk with
      | false => obtain ⟨ys, h1, _⟩ := ro; exact .base (.dK h1)
      | true => obtain ⟨o, ys, h1, _⟩ := ro; exact .fDict h1
    · rename_i kvs e
      cases h
      obtain ⟨ys, h1, _⟩ := s.at e hm
      exact .base (.dT h1)
    · cases h
theorem kit_isT {v : Val} {S : Store} {t n : String} {b : Bool} (ht : tyOf v S = some t) (h : isT t n = some b) : kitB t n = some b := by
  have t7 : t ∈ ["NoneType", "bool", "int", "str", "tuple", "list", "dict"] := by
    cases v with
    | ref k =>
      simp only [tyOf] at ht
      split at ht <;> first | (cases ht; simp) | cases ht
    | ty k => cases ht
    | ftup k => cases ht
    | _ => cases ht; simp
  have n6 : n ∈ ["int", "bool", "str", "tuple", "list", "dict"] := by
    unfold isT at h
    split at h
    · rename_i q; simpa using q
    · cases h
  have all : ∀ t ∈ ["NoneType", "bool", "int", "str", "tuple", "list", "dict"], ∀ n ∈ ["int", "bool", "str", "tuple", "list", "dict"], isT t n = kitB t n := by decide +kernel
  rw [← all t t7 n n6]; exact h
theorem K1.dk {K : PySem.W.Frag} {m : List Addr} {S : Store} {H : Hp} {Q : VK} {kvs : List (Key × Val)} {xs : List (Key × V)} {p : Addr} (k : K1 K m H (.ref S.length) (S ++ [.dk false kvs]) Q) (s : RS K m S H) (r : RK m H kvs xs) (hp : H p = none) : Q (.ref p) (upd H p (.dK xs)) := by
  have e := ext_add (ext_new (m := m) (ho := .dK xs) hp) hp
  exact k _ _ _ e (s.alloc hp ⟨xs, upd_same, r.mono e⟩) (.ref (by rw [← s.len]; simp))
theorem RK.merge {m : List Addr} {H : Hp} : ∀ {mo : List (Key × Val)} {mx : List (Key × V)} {v : List (Key × Val)} {x : List (Key × V)}, RK m H mo mx → RK m H v x → RK m H (mergeV v mo) (mergeK x mx)
  | _, _, _, _, .nil, r => r
  | _, _, v, x, .cons a b, r => RK.merge (v := putV v _ _) (x := putK x _ _) b (RK.put a r)
theorem keyVal_rel {m : List Addr} {H : Hp} (k : Key) : RV m H (keyVal k) (kV k) := by
  cases k with
  | inl i => exact .int i
  | inr x => exact .str x
theorem keys_rel {m : List Addr} {H : Hp} : ∀ {kvs : List (Key × Val)} {xs : List (Key × V)}, RK m H kvs xs → RVs m H (kvs.map fun kv => keyVal kv.1) (xs.map fun kv => kV kv.1)
  | _, _, .nil => .nil
  | _, _, .cons a b => .cons (keyVal_rel _) (keys_rel b)
theorem pair_rel {K : PySem.W.Frag} {m : List Addr} {H : Hp} : ∀ {vs : List Val} {xs : List V} {kvs : List (Key × Val)}, mapO pairV vs = some kvs → RVs m H vs xs → ∃ (ps : List Addr) (ks : List (Key × V)), xs = ps.map V.ref ∧ Paired (fun p kv => SqT K H p [kV kv.1, kv.2]) ps ks ∧ RK m H kvs ks
  | [], _, _, h, .nil => by cases h; exact ⟨[], [], rfl, .nil, .nil⟩
  | v :: vs, _, _, h, .cons a b => by
    obtain ⟨kv, r, h1, h2, rfl⟩ := mapO_cons h
    obtain ⟨ps, ks, e, pr, rk⟩ := pair_rel (K := K) h2 b
    match v, a, h1 with
    | .tup [k, w], a, h1 =>
      simp only [pairV] at h1
      split at h1
      · rename_i key ek
        cases h1
        cases a with
        | @tup _ ad ys hb r2 =>
          obtain ⟨x, y, rfl, rx, ry⟩ := r2.two
          have ex := keyOf_rel ek rx
          subst ex
          exact ⟨ad :: ps, (key, y) :: ks, by rw [e]; rfl, .cons (SqT.of hb) pr, .cons ry rk⟩
      · cases h1
theorem max_uniq {n : Int} {ns : List Int} {x : Int} (h1 : x ∈ n :: ns) (h2 : ∀ y ∈ n :: ns, y ≤ x) : x = maxI n ns := by
  have key : ∀ (ns : List Int) (n : Int), maxI n ns ∈ n :: ns ∧ ∀ y ∈ n :: ns, y ≤ maxI n ns := by
    intro ns
    induction ns with
    | nil => intro n; exact ⟨List.mem_singleton.mpr rfl, fun y hy => by rw [List.mem_singleton.mp hy]; exact Int.le_refl _⟩
    | cons z ns ih =>
      intro n
      obtain ⟨i1, i2⟩ := ih (if z > n then z else n)
      have e : maxI n (z :: ns) = maxI (if z > n then z else n) ns := rfl
      rw [e]
      have i3 := i2 _ List.mem_cons_self
      refine ⟨?_, fun y hy => ?_⟩
      · rcases List.mem_cons.mp i1 with h | h
        · rw [h]
          split
          · exact List.mem_cons_of_mem _ List.mem_cons_self
          · exact List.mem_cons_self
        · exact List.mem_cons_of_mem _ (List.mem_cons_of_mem _ h)
      · rcases List.mem_cons.mp hy with h | h
        · rw [h]
          refine Int.le_trans ?_ i3
          split <;> omega
        · rcases List.mem_cons.mp h with h | h
          · rw [h]
            refine Int.le_trans ?_ i3
            split <;> omega
          · exact i2 _ (List.mem_cons_of_mem _ h)
  obtain ⟨k1, k2⟩ := key ns n
  exact Int.le_antisymm (k2 _ h1) (h2 _ k1)
theorem ok_bi (hc : X.calm = true) (hu : X.A.units + 64 < cLine) (hg : X.A.guards = some []) (b : Bi) : CallR X (idB b) (rCB X.K (biV b)) := by
  intro pins s σ H xs us Q I r h
  obtain ⟨m, S, vs, v, S', hs, rv, h, k⟩ := h
  cases b with
  | len =>
    match vs, rv, h with
    | [.tup zs], rv, h =>
      cases h
      obtain ⟨x, rfl, ra⟩ := rv.one
      cases ra with
      | tup ha r1 =>
        refine call_len_seq pins s σ H _ us Q I r ⟨_, _, rfl, .inr (.of ha), ?_⟩
        rw [← r1.length]
        exact k.now hs (.int _)
    | [.str z], rv, h =>
      simp only [biV] at h
      split at h
      · cases h
        obtain ⟨x, rfl, ra⟩ := rv.one
        cases ra
        exact call_len_str pins s σ H _ us Q I r ⟨z, rfl, by assumption, k.now hs (.int _)⟩
      · cases h
    | [.ref n], rv, h =>
      obtain ⟨x, rfl, ra⟩ := rv.one
      cases ra with
      | ref hm =>
        simp only [biV] at h
        split at h
        · rename_i lk zs e
          cases h
          obtain ⟨ys, h1, r1⟩ := (hs.at e hm).sq
          refine call_len_seq pins s σ H _ us Q I r ⟨_, ys, rfl, .inl h1, ?_⟩
          rw [← r1.length]
          exact k.now hs (.int _)
        · rename_i kvs e
          cases h
          obtain ⟨ys, h1, r1⟩ := hs.at e hm
          refine call_lenD pins s σ H _ us Q I r ⟨_, ys, rfl, h1, ?_⟩
          rw [← r1.length]
          exact k.now hs (.int _)
        · cases h
  | int =>
    match vs, rv, h with
    | [.int i], rv, h =>
      cases h
      obtain ⟨x, rfl, ra⟩ := rv.one
      cases ra
      exact call_int1 pins s σ H _ us Q I r (.inl ⟨i, rfl, k.now hs (.int _)⟩)
    | [.bl i], rv, h =>
      cases h
      obtain ⟨x, rfl, ra⟩ := rv.one
      cases ra
      exact call_int1 pins s σ H _ us Q I r (.inr ⟨i, rfl, k.now hs (.int _)⟩)
  | abs =>
    match vs, rv, h with
    | [.int i], rv, h =>
      cases h
      obtain ⟨x, rfl, ra⟩ := rv.one
      cases ra
      exact call_abs pins s σ H _ us Q I r ⟨i, rfl, k.now hs (.int _)⟩
  | max =>
    match vs, rv, h with
    | [.int i, .int j], rv, h =>
      cases h
      obtain ⟨x, y, rfl, ra, rb⟩ := rv.two
      cases ra
      cases rb
      exact call_max2 hc pins s σ H _ us Q I r ⟨i, j, rfl, k.now hs (.int _)⟩
    | [.ref n], rv, h =>
      obtain ⟨x, rfl, ra⟩ := rv.one
      cases ra with
      | ref hm =>
        simp only [biV] at h
        split at h
        · rename_i lk zs e
          split at h
          · rename_i i is h2
            cases h
            obtain ⟨ys, h1, r1⟩ := (hs.at e hm).sq
            have ey := ints_rel h2 r1
            subst ey
            refine cr_max hc pins s σ H _ us Q I r ⟨_, i :: is, rfl, h1, by simp, fun x hx hle => ?_⟩
            rw [max_uniq hx hle]
            exact k.now hs (.int _)
          · cases h
        · cases h
  | min =>
    match vs, rv, h with
    | [.int i, .int j], rv, h =>
      cases h
      obtain ⟨x, y, rfl, ra, rb⟩ := rv.two
      cases ra
      cases rb
      exact call_min2 hc pins s σ H _ us Q I r ⟨i, j, rfl, k.now hs (.int _)⟩
    | [.tup zs], rv, h =>
      obtain ⟨x, rfl, ra⟩ := rv.one
      cases ra with
      | tup ha r1 =>
        simp only [biV] at h
        obtain ⟨z, h2, h3⟩ := Option.map_eq_some_iff.mp h
        cases h3
        cases r with
        | cons q1 q2 =>
          cases q2
          cases q1
          exact ok_minT hc hu I hs ha r1 h2 k
    | [.ref n], rv, h =>
      obtain ⟨x, rfl, ra⟩ := rv.one
      cases ra with
      | ref hm =>
        simp only [biV] at h
        split at h
        · rename_i lk zs e
          obtain ⟨z, h2, h3⟩ := Option.map_eq_some_iff.mp h
          cases h3
          cases r with
          | cons q1 q2 =>
            cases q2
            cases q1
            exact ok_minL hc hu I hs hm e h2 k
        · cases h
  | sum =>
    match vs, rv, h with
    | [.ref n], rv, h =>
      obtain ⟨x, rfl, ra⟩ := rv.one
      cases ra with
      | ref hm =>
        simp only [biV] at h
        split at h
        · rename_i lk zs e
          obtain ⟨l, h2, h3⟩ := Option.map_eq_some_iff.mp h
          cases h3
          obtain ⟨ys, h1, r1⟩ := (hs.at e hm).sq
          have ey := ints_rel h2 r1
          subst ey
          exact cr_sum hc pins s σ H _ us Q I r ⟨_, l, rfl, h1, k.now hs (.int _)⟩
        · cases h
    | [.tup zs], rv, h =>
      obtain ⟨x, rfl, ra⟩ := rv.one
      cases ra with
      | tup ha r1 =>
        simp only [biV] at h
        obtain ⟨l, h2, h3⟩ := Option.map_eq_some_iff.mp h
        cases h3
        have ey := ints_rel h2 r1
        subst ey
        exact cr_sumT hc pins s σ H _ us Q I r ⟨_, l, rfl, .of ha, k.now hs (.int _)⟩
  | all =>
    match vs, rv, h with
    | [.ref n], rv, h =>
      obtain ⟨x, rfl, ra⟩ := rv.one
      cases ra with
      | ref hm =>
        simp only [biV] at h
        split at h
        · rename_i lk zs e
          obtain ⟨l, h2, h3⟩ := Option.map_eq_some_iff.mp h
          cases h3
          obtain ⟨ys, h1, r1⟩ := (hs.at e hm).sq
          have ey := bls_rel h2 r1
          subst ey
          exact cr_all hc pins s σ H _ us Q I r ⟨_, l, rfl, h1, k.now hs (.bl _)⟩
        · cases h
  | any =>
    match vs, rv, h with
    | [.ref n], rv, h =>
      obtain ⟨x, rfl, ra⟩ := rv.one
      cases ra with
      | ref hm =>
        simp only [biV] at h
        split at h
        · rename_i lk zs e
          obtain ⟨l, h2, h3⟩ := Option.map_eq_some_iff.mp h
          cases h3
          obtain ⟨ys, h1, r1⟩ := (hs.at e hm).sq
          have ey := bls_rel h2 r1
          subst ey
          exact cr_any hc pins s σ H _ us Q I r ⟨_, l, rfl, h1, k.now hs (.bl _)⟩
        · cases h
  | tuple =>
    match vs, rv, h with
    | [.tup zs], rv, h =>
      cases h
      obtain ⟨x, rfl, ra⟩ := rv.one
      cases ra with
      | tup ha r1 => exact call_tuple_of pins s σ H _ us Q I r ⟨_, _, rfl, .inr ⟨.of ha, k.now hs (.tup ha r1)⟩⟩
    | [.ref n], rv, h =>
      obtain ⟨x, rfl, ra⟩ := rv.one
      cases ra with
      | ref hm =>
        simp only [biV] at h
        split at h
        · rename_i lk zs e
          cases h
          obtain ⟨ys, h1, r1⟩ := (hs.at e hm).sq
          exact call_tuple_of pins s σ H _ us Q I r ⟨_, ys, rfl, .inl ⟨h1, fun l hl => k.tup hs r1 hl⟩⟩
        · cases h
  | list =>
    match vs, rv, h with
    | [.tup zs], rv, h =>
      obtain ⟨x, rfl, ra⟩ := rv.one
      obtain ⟨_, rfl, rfl⟩ := newL_some h
      cases ra with
      | tup ha r1 => exact call_list_of pins s σ H _ us Q I r ⟨_, _, rfl, .inr (.of ha), fun l hl => k.lst hs r1 hl⟩
    | [.ref n], rv, h =>
      obtain ⟨x, rfl, ra⟩ := rv.one
      cases ra with
      | ref hm =>
        simp only [biV] at h
        split at h
        · rename_i lk zs e
          obtain ⟨_, rfl, rfl⟩ := newL_some h
          obtain ⟨ys, h1, r1⟩ := (hs.at e hm).sq
          exact call_list_of pins s σ H _ us Q I r ⟨_, ys, rfl, .inl h1, fun l hl => k.lst hs r1 hl⟩
        · rename_i lk kvs e
          obtain ⟨_, rfl, rfl⟩ := newL_some h
          obtain ⟨ys, hd, ry⟩ := (hs.at e hm).rd
          exact call_listD hc pins s σ H _ us Q I r ⟨_, ys, rfl, hd, fun l hl => k.lst hs (keys_rel ry) hl⟩
        · cases h
  | dict =>
    match vs, rv, h with
    | [.ref n], rv, h =>
      obtain ⟨x, rfl, ra⟩ := rv.one
      cases ra with
      | ref hm =>
        simp only [biV] at h
        split at h
        · rename_i lk zs e
          split at h
          · rename_i kvs h2
            cases h
            obtain ⟨ys, h1, r1⟩ := (hs.at e hm).sq
            obtain ⟨ps, ks, rfl, pr, rk⟩ := pair_rel (K := X.K) h2 r1
            exact call_dictP hc pins s σ H _ us Q I r ⟨_, ps, ks, rfl, h1, pr, fun l hl => k.dk hs (RK.merge rk .nil) hl⟩
          · cases h
        · rename_i lk kvs e
          cases h
          obtain ⟨ys, hd, ry⟩ := (hs.at e hm).rd
          exact call_dictD pins s σ H _ us Q I r ⟨_, ys, rfl, hd, fun l hl => k.dk hs ry hl⟩
        · cases h
  | repr =>
    match vs, rv, h with
    | [w], rv, h => exact ok_repr hu hg pins s σ H _ us Q I r ⟨m, S, [w], v, S', hs, rv, h, k⟩
  | isi =>
    match vs, rv, h with
    | [w, .ty n], rv, h =>
      obtain ⟨x, y, rfl, rx, ry⟩ := rv.two
      simp only [biV] at h
      split at h
      · rename_i t et
        obtain ⟨b, eb, e2⟩ := Option.map_eq_some_iff.mp h
        cases e2
        cases ry
        exact call_isi pins s σ H _ us Q I r ⟨x, .ty n, .type t, .type n, b, rfl, .ty n, tyX_of hs rx et, kit_ty (kit_isT et eb), k.now hs (.bl b)⟩
      · cases h
  | sorted => exact ok_sorted hc pins s σ H xs us Q I r ⟨m, S, vs, v, S', hs, rv, h, k⟩

/-! ### methods -/
def rM (K : PySem.W.Frag) (f : Val → List Val → Store → R Val) : V → List V → Hp → VK → Prop := fun x xs H Q => ∃ m S a vs v S', RS K m S H ∧ RV m H a x ∧ RVs m H vs xs ∧ f a vs S = some (v, S') ∧ K1 K m H v S' Q
def idM : Mt → String
  | .append => "list.append" | .pop => "list.pop" | .extend => "list.extend" | .get => "dict.get" | .lcount => "list.count" | .tcount => "tuple.count" | .update => "dict.update"
theorem K1.set {K : PySem.W.Frag} {m : List Addr} {S : Store} {H : Hp} {v : Val} {Q : VK} {n : Nat} {a : Addr} {o o' : Obj} {ho : HO} {x : V} (k : K1 K m H v (S.set n o') Q) (s : RS K m S H) (hS : S[n]? = some o) (hm : m[n]? = some a) (ho_ : isOpen o = true)
    (new : ∀ e : Ext m H m (upd H a ho), RO K m (upd H a ho) a o') (rv : RV m H v x) : Q x (upd H a ho) := by
  have hr := RO.opn ho_ (s.obj n o a hS hm)
  have e := ext_write (ho := ho) (s.n0 hS ho_) hm hr.1 hr.2
  exact k x m _ e (s.write hS hm ho_ (new e)) (rv.mono e)
theorem mt_tcount : MtR X "tuple.count" (fun x xs H Q => ∃ (p : Addr) (ns : List Int) (k : Int), x = .ref p ∧ xs = [.int k] ∧ SqT X.K H p (ns.map V.int) ∧ Q (.int (ns.count k : Nat)) H) := by
  intro pins s σ H x xs v us Q I rx rxs h
  obtain ⟨p, ns, k, rfl, rfl, hs, q⟩ := h
  cases rx
  obtain ⟨u, rfl, ru⟩ := rxs.one
  obtain ⟨t, rfl⟩ := ru
  obtain ⟨its, rv, ⟨⟨cls, dd, data, sl⟩, ho, hc, n, hd⟩, hlen⟩ := I.tuple hs
  simp only at hc hd
  subst hc hd
  have hi := ints_of_vals rv
  refine call_meets PySem.F.slot_tuple_count ⟨_, ho, rfl⟩ PySem.F.entry_tuple_count (PySem.F.args_tuple_count_2 _ _)
    (SeqAt.tuple_countAt p its.toArray n dd sl (.int k t) (eqk k)) ⟨ho, fun y hy => (eqk_gives hi y (by simpa using hy)).at _ _, ?_⟩
  have ec : its.toArray.toList.countP (eqk k) = ns.count k := eqk_count hi
  refine ⟨.int (ns.count k : Nat), H, I.tok _, ⟨s.toks, ?_⟩, q⟩
  show Value.int ((its.toArray.toList.countP (eqk k) : Nat) : Int) s.toks = Value.int ((ns.count k : Nat) : Int) s.toks
  rw [ec]
theorem mt_updateK : MtR X "dict.update" (fun x xs H Q => ∃ (d o : Addr) (kvs more : List (Key × V)), x = .ref d ∧ xs = [.ref o] ∧ d ≠ o ∧ H d = some (.dK kvs) ∧ Rd H o (.dK more) ∧ kvs.length + more.length ≤ sizeLine ∧ Q .non (upd H d (.dK (mergeK kvs more)))) := by
  intro pins s σ H x xs v us Q I rx rxs h
  obtain ⟨d, o, kvs, more, rfl, rfl, hne, hd, ho, hz, q⟩ := h
  cases rx
  obtain ⟨u, rfl, ru⟩ := rxs.one
  cases ru
  obtain ⟨z, hdm, vs, rel, dd⟩ := dk_of I.hok hd
  obtain ⟨z2, hom, ws, rel2, dd2⟩ := dk_rd I.hok ho
  refine call_meetsIn PySem.F.slot_dict_update dd.typeIs PySem.F.entry_dict_update (PySem.F.args_dict_update_2 _ _) (meets_dict_update (mixKind X.prog X.w) d o hne hom)
    ⟨vs, ws, dd, dd2, by rw [← rel.length, ← rel2.length]; exact hz, fun h' hmm _ hs => ?_⟩
  have he : ∃ q, h'.get? d = some q := let ⟨q, _, _, hq, _⟩ := hmm; ⟨q, hq⟩
  have hl : (mergeK kvs more).length ≤ sizeLine := by
    have : ∀ (mo : List (Key × V)) (ks : List (Key × V)), (mergeK ks mo).length ≤ ks.length + mo.length := by
      intro mo
      induction mo with
      | nil => intro ks; exact Nat.le_refl _
      | cons kv mo ih =>
        intro ks
        have h1 := ih (putK ks kv.1 kv.2)
        have h2 := length_putK ks kv.1 kv.2
        show (mergeK (putK ks kv.1 kv.2) mo).length ≤ _
        rw [List.length_cons]
        omega
    exact Nat.le_trans (this _ _) hz
  exact ⟨.non, _, d_write (t' := s.toks) I (by rw [hd]; exact True.intro) hs he (dk_new hl hdm (KV.merge rel2 rel) hmm), rfl, q⟩
theorem ok_mt (hu : X.A.units + 1 < cLine) (b : Mt) : MtR X (idM b) (rM X.K (mtV b)) := by
  intro pins s σ H x xs v us Q I rx r h
  obtain ⟨m, S, a, vs, w, S', hs, ra, rv, h, k⟩ := h
  cases b with
  | tcount =>
    match a, vs, ra, rv, h with
    | .ftup xs, [.int z], ra, rv, h =>
      simp only [mtV] at h
      obtain ⟨l, e2, e3⟩ := Option.map_eq_some_iff.mp h
      cases e3
      cases ra with
      | ftup ha hc r1 =>
        obtain ⟨y, rfl, ry⟩ := rv.one
        cases ry
        have ei := ints_rel e2 r1
        subst ei
        exact mt_tcount pins s σ H _ _ v us Q I rx r ⟨_, l, z, rfl, rfl, .inl (.inr ⟨_, ha⟩), k.now hs (.int _)⟩
  | lcount =>
    match a, vs, ra, rv, h with
    | .ref n, [.int z], ra, rv, h =>
      simp only [mtV] at h
      split at h
      · rename_i lk zs e
        obtain ⟨l, e2, e3⟩ := Option.map_eq_some_iff.mp h
        cases e3
        cases ra with
        | ref hm =>
          obtain ⟨y, rfl, ry⟩ := rv.one
          cases ry
          obtain ⟨ys, hq, r1⟩ := (hs.at e hm).sq
          have ei := ints_rel e2 r1
          subst ei
          exact mt_lcount pins s σ H _ _ v us Q I rx r ⟨_, l, z, rfl, rfl, hq, k.now hs (.int _)⟩
      · cases h
  | append =>
    match a, vs, ra, rv, h with
    | .ref n, [z], ra, rv, h =>
      simp only [mtV] at h
      split at h
      · rename_i zs e
        split at h
        · rename_i hl
          cases h
          cases ra with
          | ref hm =>
            obtain ⟨y, rfl, ry⟩ := rv.one
            obtain ⟨ys, h1, r1⟩ := hs.at e hm
            exact mt_append pins s σ H _ _ v us Q I rx r ⟨_, ys, y, rfl, rfl, h1, by rw [← r1.length]; exact hl, k.set hs e hm rfl (fun e' => ⟨_, upd_same, (r1.append (.cons ry .nil)).mono e'⟩) .non⟩
        · cases h
      · cases h
  | pop =>
    match a, vs, ra, rv, h with
    | .ref n, [], ra, rv, h =>
      simp only [mtV] at h
      split at h
      · rename_i zs e
        split at h
        · rename_i z hl
          cases h
          cases ra with
          | ref hm =>
            cases rv
            obtain ⟨ys, h1, r1⟩ := hs.at e hm
            obtain ⟨y, h2, ry⟩ := r1.get hl
            exact mt_pop pins s σ H _ _ v us Q I rx r ⟨_, ys, y, rfl, rfl, h1, by rw [← r1.length]; exact h2, k.set hs e hm rfl (fun e' => ⟨_, upd_same, r1.dropLast.mono e'⟩) ry⟩
        · cases h
      · cases h
    | .ref n, [.int i], ra, rv, h =>
      simp only [mtV] at h
      split at h
      · rename_i zs e
        split at h
        · rename_i j hj
          split at h
          · rename_i z hz
            split at h
            · rename_i hi
              cases h
              simp only [Bool.and_eq_true, decide_eq_true_eq] at hi
              cases ra with
              | ref hm =>
                obtain ⟨w, rfl, rw'⟩ := rv.one
                cases rw'
                obtain ⟨ys, h1, r1⟩ := hs.at e hm
                obtain ⟨y, h2, ry⟩ := r1.get hz
                exact mt_popAt pins s σ H _ _ v us Q I rx r ⟨_, ys, i, j, y, rfl, rfl, h1, hi.1, hi.2, by rw [← r1.length]; exact (ixN_seq hj).1, h2, k.set hs e hm rfl (fun e' => ⟨_, upd_same, (r1.eraseIdx j).mono e'⟩) ry⟩
            · cases h
          · cases h
        · cases h
      · cases h
  | update =>
    match a, vs, ra, rv, h with
    | .ref n, [.ref j], ra, rv, h =>
      simp only [mtV] at h
      split at h
      · cases h
      · rename_i hnj
        split at h
        · rename_i ks more lk e e2
          split at h
          · rename_i hl
            cases h
            cases ra with
            | @ref _ ad hm =>
              obtain ⟨y, rfl, ry⟩ := rv.one
              cases ry with
              | @ref _ ad2 hj =>
                obtain ⟨ys, h1, r1⟩ := hs.at e hm
                obtain ⟨ys2, h2, r2⟩ := (hs.at e2 hj).rd
                have hne : ad ≠ ad2 := fun q => by
                  subst q
                  rcases hs.nd n j ad hnj hm hj with kf | kf
                  · obtain ⟨_, ns, h3, _⟩ := kf; rw [e] at h3; cases h3
                  · obtain ⟨_, ns, h3, _⟩ := kf; rw [e2] at h3; cases h3
                exact mt_updateK pins s σ H _ _ v us Q I rx r ⟨ad, ad2, ys, ys2, rfl, rfl, hne, h1, h2, by rw [← r1.length, ← r2.length]; exact hl, k.set hs e hm rfl (fun e' => ⟨_, upd_same, (RK.merge r2 r1).mono e'⟩) .non⟩
          · cases h
        · cases h
  | extend =>
    match a, vs, ra, rv, h with
    | .ref n, [.ref j], ra, rv, h =>
      simp only [mtV] at h
      split at h
      · rename_i zs ws e e2
        split at h
        · rename_i hl
          cases h
          cases ra with
          | ref hm =>
            obtain ⟨y, rfl, ry⟩ := rv.one
            cases ry with
            | ref hj =>
              obtain ⟨ys, h1, r1⟩ := hs.at e hm
              obtain ⟨ys2, h2, r2⟩ := hs.at e2 hj
              exact mt_extend pins s σ H _ _ v us Q I rx r ⟨_, _, ys, ys2, rfl, rfl, h1, h2, by rw [← r1.length, ← r2.length]; exact hl, k.set hs e hm rfl (fun e' => ⟨_, upd_same, (r1.append r2).mono e'⟩) .non⟩
        · cases h
      · cases h
  | get =>
    have go : ∀ {n : Nat} {ad : Addr} {ob : Obj} {z : Val} {o : Option Val} {y : V} {w : Value}, m[n]? = some ad → S[n]? = some ob → dGet ob z = some o → RV m H z y → RelV y w →
        ∃ (r' : Option V) (H2 : Hp), Inv X pins σ H2 s ∧ DGet H2 ad y r' ∧ ORel m H o r' ∧ ∀ s', Inv X pins σ H2 s' → Inv X pins σ H s' := by
      intro n ad ob z o y w hm e e2 rz rw'
      rcases dget_rel hs hm e e2 rz with ⟨r', g, q⟩ | ⟨rfl, ⟨h1, g⟩ | ⟨h1, g⟩⟩
      · exact ⟨r', H, I, g, q, fun _ I' => I'⟩
      · exact ⟨none, _, retT I h1, g, trivial, fun s' I' => by have := retK I' upd_same; rwa [back h1] at this⟩
      · exact ⟨none, _, retK I h1, g, trivial, fun s' I' => by have := retT I' upd_same; rwa [back h1] at this⟩
    match a, vs, ra, rv, h with
    | .ref n, [z], ra, rv, h =>
      simp only [mtV] at h
      split at h
      · rename_i ob e
        obtain ⟨o, e2, e3⟩ := Option.map_eq_some_iff.mp h
        cases e3
        cases ra with
        | ref hm =>
          obtain ⟨y, rfl, ry⟩ := rv.one
          cases r with
          | cons r1 r2 =>
            cases r2
            cases rx
            obtain ⟨r', H2, I2, g, q, back⟩ := go hm e e2 ry r1
            refine d_get1 hu I2 g r1 fun w' s' I' rw' => ?_
            refine ⟨_, H, back s' I', rw', k.now hs ?_⟩
            cases o <;> cases r' <;> first | exact q | exact .non | cases q
      · cases h
    | .ref n, [z, dv], ra, rv, h =>
      simp only [mtV] at h
      split at h
      · rename_i ob e
        obtain ⟨o, e2, e3⟩ := Option.map_eq_some_iff.mp h
        cases e3
        cases ra with
        | ref hm =>
          obtain ⟨y, y2, rfl, ry, ry2⟩ := rv.two
          cases r with
          | cons r1 r2 =>
            cases r2 with
            | cons r2 r3 =>
              cases r3
              cases rx
              obtain ⟨r', H2, I2, g, q, back⟩ := go hm e e2 ry r1
              refine d_get2 hu I2 g r1 r2 fun w' s' I' rw' => ?_
              refine ⟨_, H, back s' I', rw', k.now hs ?_⟩
              cases o <;> cases r' <;> first | exact q | exact ry2 | cases q
      · cases h
end
end Rf

/-! RfRev: t[::-1] of a tuple. -/
namespace Rf
open PySem PySem.Spec PyProof.Rows L2 HT
section
variable {prog : Program} {w : World} {A : Around} {E : Value → Shared → Prop} {s : Shared}
theorem applied_rev {sl : Addr} {vs : Value} {n : Nat} {Q : Int × Int × Nat → Shared → Prop} (hs : s.heap.IsSliceOf sl .none .none vs) (ps : IsPart vs (some (-1))) (h : Q ((n : Int) - 1, -1, n) s) :
    wpAny (model prog w) A (Builtin.Slice.sliceApplied (.ref sl) (pure (n : Int))) Q E s := by
  obtain ⟨os, hos, hcs, hds⟩ := id hs
  unfold Builtin.Slice.sliceApplied Builtin.Slice.sliceFields
  refine wpAny_bind (wpAny_bind (wpAny_field hos hds (x := .none) rfl (wpAny_bind (wpAny_field hos hds (x := .none) rfl (wpAny_bind (wpAny_field hos hds (x := vs) rfl (wpAny_pure ?_)))))))
  refine wpAny_bind (slicePart_ ps ?_)
  show wpAny _ _ (if ((-1 : Int) == 0) = true then _ else _) _ _ s
  rw [if_neg (by decide)]
  refine wpAny_bind (slicePart_none (wpAny_bind (slicePart_none (wpAny_bind (wpAny_pure ?_)))))
  have e : Builtin.Slice.slicePlaces ((n : Int) - 1) (-1) (-1) = n := by
    unfold Builtin.Slice.slicePlaces
    rw [if_neg (by decide)]
    by_cases h0 : (n : Int) - 1 > -1
    · rw [if_pos h0, show (- -1 : Int) = 1 by decide, Int.ediv_one]
      omega
    · rw [if_neg h0]
      omega
  show wpAny _ _ (pure ((n : Int) - 1, (-1 : Int), Builtin.Slice.slicePlaces ((n : Int) - 1) (-1) (-1))) _ _ s
  rw [e]
  exact wpAny_pure h
theorem pick_rev (xs : Array Value) : ((List.range xs.size).filterMap fun (m : Nat) => xs[(((xs.size : Int) - 1) + (m : Int) * (-1)).toNat]?).toArray = xs.toList.reverse.toArray := by
  congr 1
  have e : ∀ l : List Nat, (∀ m ∈ l, m < xs.size) → l.filterMap (fun (m : Nat) => xs[(((xs.size : Int) - 1) + (m : Int) * (-1)).toNat]?) = (l.map fun m => xs.size - 1 - m).filterMap fun k => xs[k]? := by
    intro l
    induction l with
    | nil => intro _; rfl
    | cons m l ih =>
      intro hl
      have hm := hl m List.mem_cons_self
      have e1 : (((xs.size : Int) - 1) + (m : Int) * (-1)).toNat = xs.size - 1 - m := by omega
      rw [List.map_cons, List.filterMap_cons, List.filterMap_cons, e1, ih fun k hk => hl k (List.mem_cons_of_mem _ hk)]
  rw [e _ fun m hm => List.mem_range.mp hm, PySem.W.krv_range, List.filterMap_reverse, PySem.W.krv_all]
theorem getItem_tuple_rev {t sl : Addr} {items : Array Value} {vs : Value} {Q : Value → Shared → Prop} (ht : IsTup s.heap t items) (hs : s.heap.IsSliceOf sl .none .none vs) (ps : IsPart vs (some (-1)))
    (h : Q (.ref s.heap.objs.size) { s with heap := s.heap.push { cls := .type "tuple", data := .seq items.toList.reverse.toArray } }) (hsz : items.size ≤ sizeLine) : wpAny (model prog w) A (getItem (.ref t) (.ref sl)) Q E s := by
  have htake : sizeOk (.seq items.toList.reverse.toArray) := by
    show items.toList.reverse.toArray.size ≤ sizeLine
    rw [List.size_toArray, List.length_reverse, Array.length_toList]; exact hsz
  obtain ⟨os, hos, hcs, hds⟩ := id hs
  have hTs : s.TypeIs (.ref sl) "slice" := ⟨os, hos, hcs⟩
  unfold getItem
  try with_reducible refine wpAny_holding ?_
  first | refine wpAny_bind (wpAny_pure ?_) | skip
  refine wpAny_bind (wpAny_sequenceKey ht.typeIs (by decide) ?_)
  refine wpAny_bind (wpAny_callSpecial?_slot (name := Str.ofString "__getitem__") ht.typeIs PyProof.Rows.slot_tuple_getitem
    (wpAny_call_entry PyProof.Rows.slot_tuple_getitem ht.typeIs entry_tuple_getitem ?_ (args_tuple_getitem _ _)))
  show wpAny _ _ (Builtin.Tuple.tupleItemsOf (.ref t) >>= _) _ _ s
  refine wpAny_bind (tupleItemsOf_ ht ?_)
  refine wpAny_bind (wpAny_typeOf hTs ?_)
  rw [if_pos (by decide)]
  refine wpAny_bind (applied_rev hs ps ?_)
  have hno : ¬ (((items.size : Int) - 1 == 0 && (-1 : Int) == 1 && items.size == items.size) = true) := by
    intro q
    rw [Bool.and_eq_true, Bool.and_eq_true] at q
    exact absurd q.1.2 (by decide)
  show wpAny _ _ (if (((items.size : Int) - 1 == 0 && (-1 : Int) == 1 && items.size == items.size)) = true then _ else _) _ _ s
  rw [if_neg hno, pick_rev]
  first
    | exact wpAny_bind (m := Builtin.Tuple.tupleExact _) (wpAny_newObj_type (wpAny_pure ⟨_, rfl, wpAny_pure h⟩) htake)
    | exact wpAny_bind (m := Builtin.Tuple.tupleExact _) (wpAny_newObj_type (wpAny_bind (wpAny_pure (wpAny_pure ⟨_, rfl, wpAny_pure h⟩))) htake)
    | exact wpAny_bind (wpAny_bind (m := Builtin.Tuple.tupleExact _) (wpAny_newObj_type (wpAny_pure (wpAny_pure ⟨_, rfl, wpAny_pure h⟩)) htake))
    | exact wpAny_bind (wpAny_bind (m := Builtin.Tuple.tupleExact _) (wpAny_newObj_type (wpAny_pure ⟨_, rfl, wpAny_pure h⟩) htake))
end
/-- xs[::-1], a list or a tuple -/
def tRevA (K : PySem.W.Frag) (te : TE) : TE := fun σ H Q => te σ H fun x H1 => ∃ a xs, x = .ref a ∧ (SqL K H1 a xs ∧ (∀ p, H1 p = none → Q (.ref p) (upd H1 p (.lst xs.reverse))) ∨ SqT K H1 a xs ∧ ∀ p, H1 p = none → Q (.ref p) (upd H1 p (.tup xs.reverse)))
theorem pe_revA {X : Cx} {e : Expr} {te : TE} {k : Nat} {p1 p2 p3 pos : Pos} (he : PE X e te) : PE X (.Subscript e (.Slice none none (some (.UnaryOp .USub (.Constant (.int 1) k p1) p2)) p3) pos) (tRevA X.K te) := by
  refine ⟨fun pins s σ H Q I h => ?_⟩
  refine Subscript_ (thn (he.run pins s σ H _ I h) fun v s1 ⟨x, H1, I1, r1, q1⟩ => ?_)
  obtain ⟨a, xs, ex, q1⟩ := q1
  subst ex
  cases r1
  have hst : PO X (some (.UnaryOp .USub (.Constant (.int 1) k p1) p2)) (tPart (tUn (rU fun i => .int (-i)) (tC (.int 1)))) := po_some (pe_un un_neg pe_int)
  refine wpAny_Slice (thn (po_none.run pins s1 σ H1 (fun o H2 => o = none ∧ H2 = H1) I1 ⟨rfl, rfl⟩) fun vl s2 ⟨l, H2, I2, pl, el, e2⟩ => ?_)
  subst el e2
  refine thn (po_none.run pins s2 σ H2 (fun o H3 => o = none ∧ H3 = H2) I2 ⟨rfl, rfl⟩) fun vu s3 ⟨u, H3, I3, pu, eu, e3⟩ => ?_
  subst eu e3
  refine thn (hst.run pins s3 σ H3 (fun o H4 => o = some (-1) ∧ H4 = H3) I3 ⟨1, rfl, -1, rfl, rfl, rfl⟩) fun vs s4 ⟨o, H4, I4, ps, eo, e4⟩ => ?_
  subst eo e4
  have I5 : Inv X pins σ H4 { s4 with heap := s4.heap.push { cls := .type "slice", data := .fields #[vl, vu, vs] } } := I4.kept (t' := s4.toks) fun b ob q => Heap.get?_push_of_some _ q
  show wpAny (model X.prog X.w) X.A (subscriptTail e (.Slice none none (some (.UnaryOp .USub (.Constant (.int 1) k p1) p2)) p3) (.ref a) (.ref s4.heap.objs.size)) (EP X pins σ Q) X.xe { s4 with heap := s4.heap.push { cls := .type "slice", data := .fields #[vl, vu, vs] } }
  rcases q1 with ⟨hx, q⟩ | ⟨hx, q⟩
  · obtain ⟨its, r, ht, hz⟩ := I5.list hx
    have hlen := r.length
    refine tail_any (ops := [.ref a, .ref s4.heap.objs.size]) ht.isList.typeIs (PySem.slot_list_getitem.lookup) ?_ (by with_unfolding_all rfl)
    refine wpAny_getItem_list_slice ht.isList (Heap.IsSliceOf.new _ vl vu vs) pl pu ps (by decide) ?_ (by rw [List.size_toArray]; omega)
    rw [PySem.W.krv_pick]
    refine ⟨.ref _, _, I5.laid (t' := s4.toks) (o := .lst xs.reverse) (fun b ob q => Heap.get?_push_of_some _ q) (Nat.le_refl _) ?_, rfl, q _ (I5.hok.fresh (Nat.le_refl _))⟩
    exact ⟨by rw [List.length_reverse]; exact hz, _, 0, r.reverse, Heap.get?_push_size _ rfl⟩
  · obtain ⟨its, r, ht, hz⟩ := I5.tuple hx
    have hlen := r.length
    cases pl
    cases pu
    refine tail_any (ops := [.ref a, .ref s4.heap.objs.size]) ht.typeIs (PyProof.Rows.slot_tuple_getitem.lookup) ?_ (by with_unfolding_all rfl)
    refine getItem_tuple_rev ht (Heap.IsSliceOf.new _ .none .none vs) ps ?_ (by rw [List.size_toArray]; omega)
    refine ⟨.ref _, _, I5.laid (t' := s4.toks) (o := .tup xs.reverse) (fun b ob q => Heap.get?_push_of_some _ q) (Nat.le_refl _) ?_, rfl, q _ (I5.hok.fresh (Nat.le_refl _))⟩
    exact ⟨by rw [List.length_reverse]; exact hz, its.reverse, r.reverse, IsTup.new _ _⟩
end Rf

/-! RfZip: zip of any lists and tuples, enumerate of tuples, at the library's level. -/
namespace Rf
open PySem PySem.Spec PyProof.Rows L2

/-- an iterator it over the list or tuple at l -/
structure Dr where
  it : Addr
  l : Addr
  tp : Bool
def DrAt (h : Heap) (d : Dr) (i : Nat) : Prop := if d.tp then h.IsTupleIter d.it d.l i else h.IsListIter d.it d.l i
def DrSq (h : Heap) (d : Dr) (xs : Array Value) : Prop := if d.tp then h.IsTuple d.l xs else h.IsList d.l xs
theorem DrAt.at {h h' : Heap} {d : Dr} {i : Nat} (x : DrAt h d i) (k : ∀ o, h.get? d.it = some o → h'.get? d.it = some o) : DrAt h' d i := by
  obtain ⟨it, l, tp⟩ := d
  cases tp
  · exact Heap.IsListIter.at x k
  · exact Heap.IsTupleIter.at x k
theorem DrSq.at {h h' : Heap} {d : Dr} {xs : Array Value} (x : DrSq h d xs) (k : ∀ o, h.get? d.l = some o → h'.get? d.l = some o) : DrSq h' d xs := by
  obtain ⟨it, l, tp⟩ := d
  cases tp
  · exact Heap.IsList.at x k
  · exact Heap.IsTuple.at x k
theorem DrAt.lt {h : Heap} {d : Dr} {i : Nat} (x : DrAt h d i) : ∃ o, h.get? d.it = some o ∧ ∀ v, o.data ≠ .cell v := by
  obtain ⟨it, l, tp⟩ := d
  cases tp
  · obtain ⟨o, ho, _, hd⟩ := x; exact ⟨o, ho, fun v q => by rw [hd] at q; cases q⟩
  · obtain ⟨o, ho, _, hd⟩ := x; exact ⟨o, ho, fun v q => by rw [hd] at q; cases q⟩
section
variable {prog : Program} {w : World} {A : Around} {E : Value → Shared → Prop} {s : Shared}
theorem dr_item {d : Dr} {i : Nat} {xs : Array Value} {x : Value} {Q : Value → Shared → Prop} (hit : DrAt s.heap d i) (hl : DrSq s.heap d xs) (hx : xs[i]? = some x)
    (hQ : ∀ h', DrAt h' d (i + 1) → Heap.SameBut d.it s.heap h' → Q x { s with heap := h' }) : wpAny (model prog w) A (Builtin.SmallTypes.nextOf (.ref d.it)) Q E s := by
  obtain ⟨it, l, tp⟩ := d
  cases tp
  · exact wpAny_nextOf_list_item hit hl hx hQ
  · exact RZ.nextOf_tuple_item hit hl hx hQ
theorem dr_end {d : Dr} {i : Nat} {xs : Array Value} {Q : Value → Shared → Prop} (hh : A.handled = none) (hit : DrAt s.heap d i) (hl : DrSq s.heap d xs) (hx : xs[i]? = none)
    (hE : ∀ h' e, Heap.ExtBut d.it s.heap h' → (∃ o, h'.get? e = some o ∧ o.cls = .type "StopIteration") → E (.ref e) { s with heap := h' }) : wpAny (model prog w) A (Builtin.SmallTypes.nextOf (.ref d.it)) Q E s := by
  obtain ⟨it, l, tp⟩ := d
  cases tp
  · exact wpAny_nextOf_list_end hh hit hl hx hE
  · exact RZ.nextOf_tuple_end hh hit hl hx hE
abbrev IsTupN (h : Heap) (T : Addr) (a : Array Value) : Prop := h.get? T = some { cls := .type "tuple", data := .seq a }
structure ZApart (z TI TO : Addr) (ds : List Dr) : Prop where
  TIz : TI ≠ z
  TOz : TO ≠ z
  TITO : TI ≠ TO
  nd : (ds.map (·.it)).Nodup
  itz : ∀ d ∈ ds, d.it ≠ z ∧ d.it ≠ TI ∧ d.it ≠ TO
  lz : ∀ d ∈ ds, d.l ≠ z ∧ d.l ≠ TO ∧ ∀ d' ∈ ds, d.l ≠ d'.it
/-- a zip; f0: the tuple that it handed out; b: that it is still held -/
abbrev IsZipG (h : Heap) (z TI TO : Addr) (f0 : Value) (b : Bool) : Prop := h.get? z = some { cls := .type "zip", dict := none, data := .fields #[f0, .bool b, .bool false, .ref TI, .ref TO], slots := #[] }
/-- behind k draws of the turn i: what stands, from the state s0 -/
structure ZMid (b : Bool) (s0 : Shared) (z TI TO : Addr) (ds : List Dr) (sq : Nat → Array Value) (i : Nat) (arr : Array Value) (k : Nat) (h : Heap) : Prop where
  zz : IsZipG h z TI TO .ellipsis b
  ti : IsTupN h TI (ds.map fun d => Value.ref d.it).toArray
  to : IsTupN h TO arr
  at_ : ∀ (j : Nat) (d : Dr), ds[j]? = some d → DrAt h d (if j < k then i + 1 else i)
  sq_ : ∀ (j : Nat) (d : Dr), ds[j]? = some d → DrSq h d (sq j)
  sz : h.objs.size = s0.heap.objs.size
  keep : ∀ c o, c ≠ z → c ≠ TO → (∀ d ∈ ds, c ≠ d.it) → s0.heap.get? c = some o → h.get? c = some o
  al : arr.size = ds.length
  done : ∀ j, j < k → arr[j]? = (sq j)[i]?
theorem ZMid.step {b : Bool} {s0 : Shared} {z TI TO : Addr} {ds : List Dr} {sq : Nat → Array Value} {i k : Nat} {arr : Array Value} {h h' h'' : Heap} {d : Dr} {x : Value} (D : ZApart z TI TO ds) (M : ZMid b s0 z TI TO ds sq i arr k h) (hd : ds[k]? = some d) (hx : (sq k)[i]? = some x)
    (h1 : DrAt h' d (i + 1)) (s1 : Heap.SameBut d.it h h') (h2 : IsTupN h'' TO (arr.setIfInBounds k x)) (s2 : Heap.SameBut TO h' h'') : ZMid b s0 z TI TO ds sq i (arr.setIfInBounds k x) (k + 1) h'' := by
  have hmem : d ∈ ds := List.mem_of_getElem? hd
  obtain ⟨a1, a2, a3⟩ := D.itz d hmem
  have hk : k < ds.length := (List.getElem?_eq_some_iff.mp hd).1
  have up : ∀ c o, c ≠ d.it → c ≠ TO → h.get? c = some o → h''.get? c = some o := fun c o c1 c2 e => s2.extBut _ _ c2 (s1.extBut _ _ c1 e)
  refine ⟨up _ _ a1.symm D.TOz.symm M.zz, up _ _ a2.symm D.TITO M.ti, h2, fun j e he => ?_, fun j e he => ?_, by rw [s2.1, s1.1, M.sz], fun c o c1 c2 c3 e => up c o (c3 d hmem) c2 (M.keep c o c1 c2 c3 e), by simp [M.al], fun j hj => ?_⟩
  · by_cases hjk : j = k
    · subst hjk
      rw [hd] at he; cases he
      rw [if_pos (by omega)]
      exact h1.at fun o q => s2.extBut _ _ a3 q
    · have hne : e.it ≠ d.it := fun q => by
        have hj : j < ds.length := (List.getElem?_eq_some_iff.mp he).1
        have e1 : (ds.map (·.it))[j]? = some e.it := by rw [List.getElem?_map, he]; rfl
        have e2 : (ds.map (·.it))[k]? = some e.it := by rw [List.getElem?_map, hd, q]; rfl
        exact hjk ((List.getElem?_inj (by simpa using hj) D.nd).mp (e1.trans e2.symm))
      have := M.at_ j e he
      have ee : (if j < k + 1 then i + 1 else i) = if j < k then i + 1 else i := by
        by_cases q : j < k
        · rw [if_pos q, if_pos (by omega)]
        · rw [if_neg q, if_neg (by omega)]
      rw [ee]
      exact this.at fun o q => up _ o hne (D.itz e (List.mem_of_getElem? he)).2.2 q
  · obtain ⟨l1, l2, l3⟩ := D.lz e (List.mem_of_getElem? he)
    exact (M.sq_ j e he).at fun o q => up _ o (l3 d hmem) l2 q
  · by_cases hjk : j = k
    · subst hjk
      rw [hx]
      rw [Array.getElem?_setIfInBounds_self_of_lt (by rw [M.al]; exact hk)]
    · rw [Array.getElem?_setIfInBounds_ne (by omega)]
      exact M.done j (by omega)
theorem refs_drop {ds : List Dr} {k : Nat} {it : Value} {m : Nat} {rest : List (Value × Nat)} (h : (it, m) :: rest = ((ds.map fun d => Value.ref d.it).drop k).zipIdx k) : ∃ d, ds[k]? = some d ∧ it = .ref d.it ∧ m = k ∧ rest = ((ds.map fun d => Value.ref d.it).drop (k + 1)).zipIdx (k + 1) := by
  by_cases hk : k < ds.length
  · have e : (ds.map fun d => Value.ref d.it).drop k = Value.ref (ds[k]).it :: (ds.map fun d => Value.ref d.it).drop (k + 1) := by
      rw [List.drop_eq_getElem_cons (by simpa using hk)]; simp
    rw [e, List.zipIdx_cons] at h
    injection h with h1 h2
    injection h1 with h1 h3
    exact ⟨_, List.getElem?_eq_getElem hk, h1, h3, h2⟩
  · rw [List.drop_eq_nil_of_le (by simp; omega)] at h
    cases h
theorem refs_nil {ds : List Dr} {k : Nat} (h : [] = ((ds.map fun d => Value.ref d.it).drop k).zipIdx k) : ds.length ≤ k := by
  have := congrArg List.length h
  simp at this
  omega
theorem zip_next {f0 : Value} {b : Bool} {z TI TO : Addr} {ds : List Dr} {sq : Nat → Array Value} {i : Nat} {arr : Array Value} {Q : Value → Shared → Prop} (D : ZApart z TI TO ds) (hne : ds ≠ [])
    (hfree : ∀ Q : Bool → Shared → Prop, Q true s → wpAny (model prog w) A (Builtin.SmallTypes.ownedTupleIsFree (.ref z)) Q E s) (hz : IsZipG s.heap z TI TO f0 b) (hTI : IsTupN s.heap TI (ds.map fun d => Value.ref d.it).toArray) (hTO : IsTupN s.heap TO arr) (hal : arr.size = ds.length)
    (hat : ∀ (j : Nat) (d : Dr), ds[j]? = some d → DrAt s.heap d i) (hsq : ∀ (j : Nat) (d : Dr), ds[j]? = some d → DrSq s.heap d (sq j)) (hn : ds.length ≤ 100)
    (hx : ∀ j, j < ds.length → (sq j)[i]?.isSome = true)
    (hQ : ∀ h' arr', IsZip h' z TI TO (rawInt s.heap.objs.size) → IsTupN h' TI (ds.map fun d => Value.ref d.it).toArray → IsTupN h' TO arr' → arr'.size = ds.length → (∀ (j : Nat) (d : Dr), ds[j]? = some d → DrAt h' d (i + 1)) →
      IsTupN h' s.heap.objs.size arr' → (∀ j, j < ds.length → arr'[j]? = (sq j)[i]?) → h'.objs.size = s.heap.objs.size + 1 →
      (∀ c o, c ≠ z → c ≠ TO → (∀ d ∈ ds, c ≠ d.it) → s.heap.get? c = some o → h'.get? c = some o) → Q (.ref s.heap.objs.size) { s with heap := h' }) :
    wpAny (model prog w) A (Builtin.«zip.__next__» ⟨[.ref z], []⟩) (fun fin s' => ∃ v, fin = .done (.ret v) ∧ Q v s') E s := by
  show wpAny _ _ (field (.ref z) 2 >>= _) _ _ _
  refine wpAny_bind (wpAny_field hz rfl (x := .bool false) rfl ?_)
  show wpAny _ _ (field (.ref z) 3 >>= _) _ _ _
  refine wpAny_bind (wpAny_field hz rfl (x := .ref TI) rfl ?_)
  refine wpAny_bind (wpAny_seqItems hTI rfl ?_)
  have hemp : (ds.map fun d => Value.ref d.it).toArray.isEmpty = false := by
    cases ds with
    | nil => exact absurd rfl hne
    | cons d r => rfl
  show wpAny _ _ (if (List.map (fun d => Value.ref d.it) ds).toArray.isEmpty = true then _ else _) _ _ _
  rw [if_neg (by rw [hemp]; decide)]
  show wpAny _ _ (Builtin.SmallTypes.ownedTupleIsFree (.ref z) >>= _) _ _ _
  refine wpAny_bind (hfree _ ?_)
  simp only [if_true]
  refine wpAny_bind (wpAny_rule ?_)
  refine wpAny_bind (wpAny_field hz rfl (x := .ref TO) rfl ?_)
  refine wpAny_bind (wpAny_setField_rec hz (by simp) fun h₁ hz₁ hs₁ => ?_)
  replace hz₁ : IsZipG h₁ z TI TO .ellipsis b := hz₁
  have M0 : ZMid b s z TI TO ds sq i arr 0 h₁ := ⟨hz₁, hs₁.extBut _ _ D.TIz hTI, hs₁.extBut _ _ D.TOz hTO, fun j d hd => by
      rw [if_neg (by omega)]; exact (hat j d hd).at fun o q => hs₁.extBut _ _ (D.itz d (List.mem_of_getElem? hd)).1 q,
    fun j d hd => (hsq j d hd).at fun o q => hs₁.extBut _ _ (D.lz d (List.mem_of_getElem? hd)).1 q, hs₁.1, fun c o c1 _ _ e => hs₁.extBut _ _ c1 e, hal, fun j hj => absurd hj (Nat.not_lt_zero _)⟩
  refine wpAny_bind ?_
  refine wpAny_forIn_list _ (fun rest c s' => c = (none, ()) ∧ ∃ k arr', rest = ((ds.map fun d => Value.ref d.it).drop k).zipIdx k ∧ s' = { s with heap := s'.heap } ∧ ZMid b s z TI TO ds sq i arr' k s'.heap) _ ?_ ?_ _ _ ⟨rfl, 0, arr, rfl, rfl, M0⟩
  · rintro ⟨it, m⟩ rest b s' ⟨rfl, k, arr', hr, hs', M⟩
    obtain ⟨d, hd, rfl, rfl, rfl⟩ := refs_drop hr
    have hk : m < ds.length := (List.getElem?_eq_some_iff.mp hd).1
    obtain ⟨x, hx'⟩ := Option.isSome_iff_exists.mp (hx m hk)
    have hdit := M.at_ m d hd
    rw [if_neg (by omega)] at hdit
    refine wpAny_bind (wpAny_onRaise ?_)
    show wpAny _ _ (Builtin.SmallTypes.nextOf (.ref d.it) >>= _) _ _ _
    refine wpAny_bind (dr_item hdit (M.sq_ m d hd) hx' fun h₂ h1₂ hs₂ => wpAny_pure ?_)
    have hTO₂ : IsTupN h₂ TO arr' := hs₂.extBut _ _ (D.itz d (List.mem_of_getElem? hd)).2.2.symm M.to
    refine wpAny_bind (wpAny_seqItems hTO₂ rfl ?_)
    refine wpAny_bind (wpAny_updateSeq hTO₂ rfl ?_ (by rw [M.al, sizeLine_eq]; omega) (by rw [Array.size_setIfInBounds, M.al, sizeLine_eq]; omega))
    refine wpAny_bind (wpAny_letGo (wpAny_pure ?_))
    refine ⟨rfl, m + 1, _, rfl, by rw [hs'], M.step D hd hx' h1₂ hs₂ ?_ (Heap.SameBut.update ..)⟩
    show (h₂.update TO (Obj.mapSeq fun a => a.setIfInBounds m x)).get? TO = some { cls := .type "tuple", data := .seq (arr'.setIfInBounds m x) }
    rw [Heap.get?_update_self _ hTO₂ rfl]
    simp [Obj.mapSeq]
  · rintro b s' ⟨rfl, k, arr', hr, hs', M⟩
    have hk := refs_nil hr
    refine wpAny_bind (wpAny_seqItems M.to rfl ?_)
    refine wpAny_bind (wpAny_newTuple ?_ (by simp [M.al, sizeLine_eq]; omega))
    have hzlt : z < s'.heap.objs.size := Heap.lt_size M.zz
    show wpAny _ _ (Builtin.SmallTypes.ownedTupleHandOut (.ref z) (.ref s'.heap.objs.size) >>= _) _ _ _
    refine wpAny_bind ?_
    unfold Builtin.SmallTypes.ownedTupleHandOut
    have hz₆ : IsZipG (s'.heap.push { cls := .type "tuple", data := .seq arr' }) z TI TO .ellipsis b := Heap.get?_push_of_some _ M.zz
    refine wpAny_bind (wpAny_setField_rec (by simpa using hz₆) (by simp) fun h₇ hz₇ hs₇ => ?_)
    replace hz₇ : IsZipG h₇ z TI TO (rawInt s'.heap.objs.size) b := hz₇
    refine wpAny_setField_rec hz₇ (by simp) fun h₈ hz₈ hs₈ => ?_
    replace hz₈ : IsZip h₈ z TI TO (rawInt s'.heap.objs.size) := hz₈
    have hs₇' : Heap.SameBut z (s'.heap.push { cls := .type "tuple", data := .seq arr' }) h₇ := by simpa using hs₇
    have up : ∀ c o, c ≠ z → s'.heap.get? c = some o → h₈.get? c = some o := fun c o c1 e => hs₈.extBut _ _ c1 (hs₇'.extBut _ _ c1 (Heap.get?_push_of_some _ e))
    have hT₈ : IsTupN h₈ s'.heap.objs.size arr' := hs₈.extBut _ _ (Nat.ne_of_gt hzlt) (hs₇'.extBut _ _ (Nat.ne_of_gt hzlt) (Heap.get?_push_size _ rfl))
    have hz8 : h₈.objs.size = s'.heap.objs.size + 1 := by rw [hs₈.1, hs₇'.1, Heap.size_push]
    rw [M.sz] at hz₈ hT₈ hz8
    refine wpAny_pure ⟨_, rfl, ?_⟩
    show Q (.ref s'.heap.objs.size) _
    rw [M.sz, hs']
    refine hQ h₈ arr' hz₈ (up _ _ D.TIz M.ti) (up _ _ D.TOz M.to) M.al (fun j d hd => ?_) hT₈ (fun j hj => M.done j (by omega)) hz8 fun c o c1 c2 c3 e => up c o c1 (M.keep c o c1 c2 c3 e)
    have := M.at_ j d hd
    have hj : j < ds.length := (List.getElem?_eq_some_iff.mp hd).1
    rw [if_pos (by omega)] at this
    exact this.at fun o q => up _ o (D.itz d (List.mem_of_getElem? hd)).1 q
theorem zip_end {f0 : Value} {b : Bool} {z TI TO : Addr} {ds : List Dr} {sq : Nat → Array Value} {i : Nat} {arr : Array Value} {Q : Fin → Shared → Prop} (hh : A.handled = none) (D : ZApart z TI TO ds) (hne : ds ≠ [])
    (hfree : ∀ Q : Bool → Shared → Prop, Q true s → wpAny (model prog w) A (Builtin.SmallTypes.ownedTupleIsFree (.ref z)) Q E s) (hz : IsZipG s.heap z TI TO f0 b) (hTI : IsTupN s.heap TI (ds.map fun d => Value.ref d.it).toArray) (hTO : IsTupN s.heap TO arr) (hal : arr.size = ds.length)
    (hat : ∀ (j : Nat) (d : Dr), ds[j]? = some d → DrAt s.heap d i) (hsq : ∀ (j : Nat) (d : Dr), ds[j]? = some d → DrSq s.heap d (sq j)) (hn : ds.length ≤ 100)
    (hx : ∃ j, j < ds.length ∧ (sq j)[i]? = none)
    (hE : ∀ h' e, (∀ c o, c ≠ z → c ≠ TO → (∀ d ∈ ds, c ≠ d.it) → s.heap.get? c = some o → h'.get? c = some o) → (∃ o, h'.get? e = some o ∧ o.cls = .type "StopIteration") → E (.ref e) { s with heap := h' }) :
    wpAny (model prog w) A (Builtin.«zip.__next__» ⟨[.ref z], []⟩) Q E s := by
  show wpAny _ _ (field (.ref z) 2 >>= _) _ _ _
  refine wpAny_bind (wpAny_field hz rfl (x := .bool false) rfl ?_)
  show wpAny _ _ (field (.ref z) 3 >>= _) _ _ _
  refine wpAny_bind (wpAny_field hz rfl (x := .ref TI) rfl ?_)
  refine wpAny_bind (wpAny_seqItems hTI rfl ?_)
  have hemp : (ds.map fun d => Value.ref d.it).toArray.isEmpty = false := by
    cases ds with
    | nil => exact absurd rfl hne
    | cons d r => rfl
  show wpAny _ _ (if (List.map (fun d => Value.ref d.it) ds).toArray.isEmpty = true then _ else _) _ _ _
  rw [if_neg (by rw [hemp]; decide)]
  show wpAny _ _ (Builtin.SmallTypes.ownedTupleIsFree (.ref z) >>= _) _ _ _
  refine wpAny_bind (hfree _ ?_)
  simp only [if_true]
  refine wpAny_bind (wpAny_rule ?_)
  refine wpAny_bind (wpAny_field hz rfl (x := .ref TO) rfl ?_)
  refine wpAny_bind (wpAny_setField_rec hz (by simp) fun h₁ hz₁ hs₁ => ?_)
  replace hz₁ : IsZipG h₁ z TI TO .ellipsis b := hz₁
  have M0 : ZMid b s z TI TO ds sq i arr 0 h₁ := ⟨hz₁, hs₁.extBut _ _ D.TIz hTI, hs₁.extBut _ _ D.TOz hTO, fun j d hd => by
      rw [if_neg (by omega)]; exact (hat j d hd).at fun o q => hs₁.extBut _ _ (D.itz d (List.mem_of_getElem? hd)).1 q,
    fun j d hd => (hsq j d hd).at fun o q => hs₁.extBut _ _ (D.lz d (List.mem_of_getElem? hd)).1 q, hs₁.1, fun c o c1 _ _ e => hs₁.extBut _ _ c1 e, hal, fun j hj => absurd hj (Nat.not_lt_zero _)⟩
  obtain ⟨j0, hj0, hx0⟩ := hx
  refine wpAny_bind ?_
  refine wpAny_forIn_list _ (fun rest c s' => c = (none, ()) ∧ ∃ k arr', k ≤ j0 ∧ rest = ((ds.map fun d => Value.ref d.it).drop k).zipIdx k ∧ s' = { s with heap := s'.heap } ∧ ZMid b s z TI TO ds sq i arr' k s'.heap) _ ?_ ?_ _ _ ⟨rfl, 0, arr, Nat.zero_le _, rfl, rfl, M0⟩
  · rintro ⟨it, m⟩ rest b s' ⟨rfl, k, arr', hkj, hr, hs', M⟩
    obtain ⟨d, hd, rfl, rfl, rfl⟩ := refs_drop hr
    have hk : m < ds.length := (List.getElem?_eq_some_iff.mp hd).1
    have hdit := M.at_ m d hd
    rw [if_neg (by omega)] at hdit
    have hmem := List.mem_of_getElem? hd
    refine wpAny_bind (wpAny_onRaise ?_)
    show wpAny _ _ (Builtin.SmallTypes.nextOf (.ref d.it) >>= _) _ _ _
    cases hx' : (sq m)[i]? with
    | some x =>
      have hne' : m ≠ j0 := fun q => by subst q; rw [hx0] at hx'; cases hx'
      refine wpAny_bind (dr_item hdit (M.sq_ m d hd) hx' fun h₂ h1₂ hs₂ => wpAny_pure ?_)
      have hTO₂ : IsTupN h₂ TO arr' := hs₂.extBut _ _ (D.itz d hmem).2.2.symm M.to
      refine wpAny_bind (wpAny_seqItems hTO₂ rfl ?_)
      refine wpAny_bind (wpAny_updateSeq hTO₂ rfl ?_ (by rw [M.al, sizeLine_eq]; omega) (by rw [Array.size_setIfInBounds, M.al, sizeLine_eq]; omega))
      refine wpAny_bind (wpAny_letGo (wpAny_pure ?_))
      refine ⟨rfl, m + 1, _, by omega, rfl, by rw [hs'], M.step D hd hx' h1₂ hs₂ ?_ (Heap.SameBut.update ..)⟩
      show (h₂.update TO (Obj.mapSeq fun a => a.setIfInBounds m x)).get? TO = some { cls := .type "tuple", data := .seq (arr'.setIfInBounds m x) }
      rw [Heap.get?_update_self _ hTO₂ rfl]
      simp [Obj.mapSeq]
    | none =>
      refine wpAny_bind (dr_end hh hdit (M.sq_ m d hd) hx' fun h₂ e hs₂ he => ?_)
      obtain ⟨oe, hoe, hce⟩ := he
      have hz₂ : IsZipG h₂ z TI TO .ellipsis b := hs₂ _ _ (D.itz d hmem).1.symm M.zz
      have hez : e ≠ z := fun x => by subst x; rw [hz₂] at hoe; cases hoe; simp at hce
      refine wpAny_setField_rec hz₂ (by simp) fun h₃ _ hs₃ => ?_
      rw [hs']
      exact hE h₃ e (fun c o c1 c2 c3 x => hs₃.extBut _ _ c1 (hs₂ _ _ (c3 d hmem) (M.keep c o c1 c2 c3 x))) ⟨oe, hs₃.extBut _ _ hez hoe, hce⟩
  · rintro b s' ⟨rfl, k, arr', hkj, hr, hs', M⟩
    have hk := refs_nil hr
    omega
theorem free_none {z TI TO : Addr} {b : Bool} {Q : Bool → Shared → Prop} (hz : IsZipG s.heap z TI TO .none b) (h : Q true s) : wpAny (model prog w) A (Builtin.SmallTypes.ownedTupleIsFree (.ref z)) Q E s := by
  unfold Builtin.SmallTypes.ownedTupleIsFree
  exact wpAny_bind (wpAny_field hz rfl (x := .none) rfl (wpAny_pure h))
theorem pyNext_zip {z TI TO : Addr} {ds : List Dr} {sq : Nat → Array Value} {i : Nat} {arr : Array Value} {Q : Option Value → Shared → Prop} (D : ZApart z TI TO ds) (hne : ds ≠ [])
    (hz : IsZip s.heap z TI TO .none) (hTI : IsTupN s.heap TI (ds.map fun d => Value.ref d.it).toArray) (hTO : IsTupN s.heap TO arr) (hal : arr.size = ds.length)
    (hat : ∀ (j : Nat) (d : Dr), ds[j]? = some d → DrAt s.heap d i) (hsq : ∀ (j : Nat) (d : Dr), ds[j]? = some d → DrSq s.heap d (sq j)) (hn : ds.length ≤ 100)
    (hx : ∀ j, j < ds.length → (sq j)[i]?.isSome = true)
    (hQ : ∀ h' arr', IsZip h' z TI TO (rawInt s.heap.objs.size) → IsTupN h' TI (ds.map fun d => Value.ref d.it).toArray → IsTupN h' TO arr' → arr'.size = ds.length → (∀ (j : Nat) (d : Dr), ds[j]? = some d → DrAt h' d (i + 1)) →
      IsTupN h' s.heap.objs.size arr' → (∀ j, j < ds.length → arr'[j]? = (sq j)[i]?) → h'.objs.size = s.heap.objs.size + 1 →
      (∀ c o, c ≠ z → c ≠ TO → (∀ d ∈ ds, c ≠ d.it) → s.heap.get? c = some o → h'.get? c = some o) → Q (some (.ref s.heap.objs.size)) { s with heap := h' }) :
    wpAny (model prog w) A (pyNext (.ref z)) Q E s := by
  have hT : s.TypeIs (.ref z) "zip" := ⟨_, hz, rfl⟩
  unfold pyNext
  exact wpAny_bind (wpAny_attempt (wpAny_callSpecial?_slot (name := Str.ofString "__next__") hT F.slot_zip_next
    (wpAny_call_entry F.slot_zip_next hT F.entry_zip_next
      (zip_next D hne (fun Q h => free_none hz h) hz hTI hTO hal hat hsq hn hx fun h' arr' a1 a2 a3 a4 a5 a6 a7 a8 a9 => wpAny_pure (hQ h' arr' a1 a2 a3 a4 a5 a6 a7 a8 a9)) (F.args_zip_next_1 _))))
theorem pyNext_zip_end {z TI TO : Addr} {ds : List Dr} {sq : Nat → Array Value} {i : Nat} {arr : Array Value} {Q : Option Value → Shared → Prop} (hh : A.handled = none) (D : ZApart z TI TO ds) (hne : ds ≠ [])
    (hz : IsZip s.heap z TI TO .none) (hTI : IsTupN s.heap TI (ds.map fun d => Value.ref d.it).toArray) (hTO : IsTupN s.heap TO arr) (hal : arr.size = ds.length)
    (hat : ∀ (j : Nat) (d : Dr), ds[j]? = some d → DrAt s.heap d i) (hsq : ∀ (j : Nat) (d : Dr), ds[j]? = some d → DrSq s.heap d (sq j)) (hn : ds.length ≤ 100)
    (hx : ∃ j, j < ds.length ∧ (sq j)[i]? = none)
    (hQ : ∀ h', (∀ c o, c ≠ z → c ≠ TO → (∀ d ∈ ds, c ≠ d.it) → s.heap.get? c = some o → h'.get? c = some o) → Q none { s with heap := h' }) :
    wpAny (model prog w) A (pyNext (.ref z)) Q E s := by
  have hT : s.TypeIs (.ref z) "zip" := ⟨_, hz, rfl⟩
  unfold pyNext
  refine wpAny_bind (wpAny_attempt (wpAny_callSpecial?_slot (name := Str.ofString "__next__") hT F.slot_zip_next
    (wpAny_call_entry F.slot_zip_next hT F.entry_zip_next (zip_end hh D hne (fun Q h => free_none hz h) hz hTI hTO hal hat hsq hn hx fun h' e hk he => ?_) (F.args_zip_next_1 _))))
  obtain ⟨o, ho, hc⟩ := he
  refine wpAny_bind (wpAny_isInstance (T := "StopIteration") (b := true) ⟨o, ho, hc⟩ isSubtype_stop ?_)
  exact wpAny_pure (hQ _ hk)

/-! ### zip is made -/
def sqTy (tp : Bool) : String := if tp then "tuple_iterator" else "list_iterator"
theorem dr_iter {d : Dr} {xs : Array Value} {Q : Value → Shared → Prop} (h : DrSq s.heap d xs)
    (hQ : Q (.ref s.heap.objs.size) { s with heap := s.heap.push { cls := .type (sqTy d.tp), data := .fields #[.ref d.l, .int 0 0] } }) : wpAny (model prog w) A (pyIter (.ref d.l)) Q E s := by
  obtain ⟨it, l, tp⟩ := d
  cases tp
  · exact wpAny_pyIter_list h hQ
  · exact wpAny_pyIter_tuple h hQ
end
/-- sequences at ls, kinds ks -/
def SqOk (h : Heap) (l : Addr) (tp : Bool) (xs : Array Value) : Prop := DrSq h ⟨0, l, tp⟩ xs
theorem SqOk.push {h : Heap} {l : Addr} {tp : Bool} {xs : Array Value} (x : SqOk h l tp xs) (o : PySem.Obj) : SqOk (h.push o) l tp xs :=
  DrSq.at (d := ⟨0, l, tp⟩) x fun _ e => Heap.get?_push_of_some _ e
abbrev itO (l : Addr) (tp : Bool) : PySem.Obj := { cls := .type (sqTy tp), data := .fields #[.ref l, .int 0 0] }
abbrev zp (h : Heap) (n : Nat) (refs nones : Array Value) : Heap :=
  ((h.push { cls := .type "tuple", data := .seq refs }).push { cls := .type "tuple", data := .seq nones }).push { cls := .type "zip", data := .fields #[.none, .bool false, .bool false, .ref n, .ref (n + 1)] }
theorem meets_zip2 (l1 l2 : Addr) (t1 t2 : Bool) (xs ys : Array Value) :
    Meets (Builtin.«zip.__new__» ⟨[.type "zip", .ref l1, .ref l2], []⟩) (fun _ R s => SqOk s.heap l1 t1 xs ∧ SqOk s.heap l2 t2 ys ∧
      R (.ok (.ret (.ref (s.heap.objs.size + 4)))) { s with heap := zp ((s.heap.push (itO l1 t1)).push (itO l2 t2)) (s.heap.objs.size + 2) #[.ref s.heap.objs.size, .ref (s.heap.objs.size + 1)] #[.none, .none] }) :=
  .of_wp fun prog w A R s h => by
    obtain ⟨hp, g, d, tk, os⟩ := s; obtain ⟨hl1, hl2, h⟩ := h
    have hsub := sub_zip
    have hL1 : DrSq (Shared.heap ⟨hp, g, d, tk, os⟩) ⟨0, l1, t1⟩ xs := hl1
    have hL2 : DrSq (Shared.heap ⟨hp.push (itO l1 t1), g, d, tk, os⟩) ⟨0, l2, t2⟩ ys := SqOk.push hl2 _
    wp_walk using dr_iter hL1, dr_iter hL2
    refine ⟨_, rfl, ?_⟩
    simp only [Heap.size_push]
    exact h
namespace F
theorem typeCall_zip_3 (a b c : Value) : checkTypeCall "zip" ⟨[a, b, c], []⟩ = pure () := by kernel_rfl
theorem newCall_zip_3 (a b c : Value) : checkBuiltinCall "zip.__new__" ⟨[.type "zip", a, b, c], []⟩ = pure () := by kernel_rfl
theorem args_object_init_4 (a b c d : Value) : argsOk "object.__init__" ⟨[a, b, c, d], []⟩ := by
  unfold argsOk; rw [signature?_of (id := "object.__init__") (n := ['_', '_', 't', 'i', 'n', 'i', '_', '_']) (o := ['t', 'c', 'e', 'j', 'b', 'o']) (by kernel_rfl) PySem.F.owner_object]; kernel_rfl
end F
theorem meets_zip3 (l1 l2 l3 : Addr) (t1 t2 t3 : Bool) (xs ys zs : Array Value) :
    Meets (Builtin.«zip.__new__» ⟨[.type "zip", .ref l1, .ref l2, .ref l3], []⟩) (fun _ R s => SqOk s.heap l1 t1 xs ∧ SqOk s.heap l2 t2 ys ∧ SqOk s.heap l3 t3 zs ∧
      R (.ok (.ret (.ref (s.heap.objs.size + 5)))) { s with heap := zp (((s.heap.push (itO l1 t1)).push (itO l2 t2)).push (itO l3 t3)) (s.heap.objs.size + 3) #[.ref s.heap.objs.size, .ref (s.heap.objs.size + 1), .ref (s.heap.objs.size + 2)] #[.none, .none, .none] }) :=
  .of_wp fun prog w A R s h => by
    obtain ⟨hp, g, d, tk, os⟩ := s; obtain ⟨hl1, hl2, hl3, h⟩ := h
    have hsub := sub_zip
    have hL1 : DrSq (Shared.heap ⟨hp, g, d, tk, os⟩) ⟨0, l1, t1⟩ xs := hl1
    have hL2 : DrSq (Shared.heap ⟨hp.push (itO l1 t1), g, d, tk, os⟩) ⟨0, l2, t2⟩ ys := SqOk.push hl2 _
    have hL3 : DrSq (Shared.heap ⟨(hp.push (itO l1 t1)).push (itO l2 t2), g, d, tk, os⟩) ⟨0, l3, t3⟩ zs := SqOk.push (SqOk.push hl3 _) _
    wp_walk using dr_iter hL1, dr_iter hL2, dr_iter hL3
    refine ⟨_, rfl, ?_⟩
    simp only [Heap.size_push]
    exact h
section
variable {prog : Program} {w : World} {A : Around} {E : Value → Shared → Prop} {s : Shared}
/-- what stands behind zip(..): z, the iterators' tuple, the last one's, from the size n on -/
structure ZNew (n : Nat) (h0 h' : Heap) (ds : List Dr) : Prop where
  zz : IsZip h' (n + ds.length + 2) (n + ds.length) (n + ds.length + 1) .none
  ti : IsTupN h' (n + ds.length) (ds.map fun d => Value.ref d.it).toArray
  to : IsTupN h' (n + ds.length + 1) (ds.map fun _ => Value.none).toArray
  at_ : ∀ (j : Nat) (d : Dr), ds[j]? = some d → d.it = n + j ∧ DrAt h' d 0
  keep : ∀ c o, h0.get? c = some o → h'.get? c = some o
theorem drAt_new {h : Heap} {a l : Addr} {tp : Bool} (e : h.get? a = some (itO l tp)) : DrAt h ⟨a, l, tp⟩ 0 := by
  cases tp
  · exact ⟨_, e, rfl, rfl⟩
  · exact ⟨_, e, rfl, rfl⟩
theorem call_zip2 {l1 l2 : Addr} {t1 t2 : Bool} {xs ys : Array Value} {Q : Value → Shared → Prop} (hl1 : SqOk s.heap l1 t1 xs) (hl2 : SqOk s.heap l2 t2 ys)
    (h : ∀ h', ZNew s.heap.objs.size s.heap h' [⟨s.heap.objs.size, l1, t1⟩, ⟨s.heap.objs.size + 1, l2, t2⟩] → Q (.ref (s.heap.objs.size + 4)) { s with heap := h' }) :
    wpAny (model prog w) A (call (.type "zip") [.ref l1, .ref l2]) Q E s := by
  refine callType_new F.called_zip (by decide) (F.typeCall_zip_2 _ _) (F.newCall_zip_2 _ _) (fun obj => F.args_object_init_3 obj _ _) F.entry_zip_new
    (meets_zip2 l1 l2 t1 t2 xs ys) ⟨hl1, hl2, ?_⟩
  have p : ∀ {h : Heap} {c : Addr} {o u : PySem.Obj}, h.get? c = some o → (h.push u).get? c = some o := fun e => Heap.get?_push_of_some _ e
  have g1 : (s.heap.push (itO l1 t1)).get? s.heap.objs.size = some (itO l1 t1) := Heap.get?_push_size _ rfl
  have g2 : ((s.heap.push (itO l1 t1)).push (itO l2 t2)).get? (s.heap.objs.size + 1) = some (itO l2 t2) := by
    have := Heap.get?_push_size (s.heap.push (itO l1 t1)) (o := itO l2 t2) rfl
    rwa [Heap.size_push] at this
  generalize hh : (s.heap.push (itO l1 t1)).push (itO l2 t2) = h2 at g2
  have z2 : h2.objs.size = s.heap.objs.size + 2 := by rw [← hh, Heap.size_push, Heap.size_push]
  have k2 : ∀ c o, s.heap.get? c = some o → h2.get? c = some o := fun c o e => by rw [← hh]; exact p (p e)
  have g1' : h2.get? s.heap.objs.size = some (itO l1 t1) := by rw [← hh]; exact p g1
  have g3 : (h2.push { cls := .type "tuple", data := .seq #[.ref s.heap.objs.size, .ref (s.heap.objs.size + 1)] }).get? (s.heap.objs.size + 2) = some { cls := .type "tuple", data := .seq #[.ref s.heap.objs.size, .ref (s.heap.objs.size + 1)] } := by
    rw [← z2]; exact Heap.get?_push_size _ rfl
  have g4 : ((h2.push { cls := .type "tuple", data := .seq #[.ref s.heap.objs.size, .ref (s.heap.objs.size + 1)] }).push { cls := .type "tuple", data := .seq #[.none, .none] }).get? (s.heap.objs.size + 3) = some { cls := .type "tuple", data := .seq #[.none, .none] } := by
    have := Heap.get?_push_size (h2.push { cls := .type "tuple", data := .seq #[.ref s.heap.objs.size, .ref (s.heap.objs.size + 1)] }) (o := { cls := .type "tuple", data := .seq #[.none, .none] }) rfl
    rwa [Heap.size_push, z2] at this
  have g5 : (zp h2 (s.heap.objs.size + 2) #[.ref s.heap.objs.size, .ref (s.heap.objs.size + 1)] #[.none, .none]).get? (s.heap.objs.size + 4) = some { cls := .type "zip", data := .fields #[.none, .bool false, .bool false, .ref (s.heap.objs.size + 2), .ref (s.heap.objs.size + 3)] } := by
    have := Heap.get?_push_size ((h2.push { cls := .type "tuple", data := .seq #[.ref s.heap.objs.size, .ref (s.heap.objs.size + 1)] }).push { cls := .type "tuple", data := .seq #[.none, .none] }) (o := { cls := .type "zip", data := .fields #[.none, .bool false, .bool false, .ref (s.heap.objs.size + 2), .ref (s.heap.objs.size + 3)] }) rfl
    rwa [Heap.size_push, Heap.size_push, z2] at this
  refine ⟨⟨_, g5, rfl⟩, h _ ⟨g5, p (p g3), p g4, fun j d hd => ?_, fun c o e => p (p (p (k2 c o e)))⟩⟩
  match j, hd with
  | 0, hd => cases hd; exact ⟨rfl, drAt_new (p (p (p g1')))⟩
  | 1, hd => cases hd; exact ⟨rfl, drAt_new (p (p (p g2)))⟩
theorem call_zip3 {l1 l2 l3 : Addr} {t1 t2 t3 : Bool} {xs ys zs : Array Value} {Q : Value → Shared → Prop} (hl1 : SqOk s.heap l1 t1 xs) (hl2 : SqOk s.heap l2 t2 ys) (hl3 : SqOk s.heap l3 t3 zs)
    (h : ∀ h', ZNew s.heap.objs.size s.heap h' [⟨s.heap.objs.size, l1, t1⟩, ⟨s.heap.objs.size + 1, l2, t2⟩, ⟨s.heap.objs.size + 2, l3, t3⟩] → Q (.ref (s.heap.objs.size + 5)) { s with heap := h' }) :
    wpAny (model prog w) A (call (.type "zip") [.ref l1, .ref l2, .ref l3]) Q E s := by
  refine callType_new F.called_zip (by decide) (F.typeCall_zip_3 _ _ _) (F.newCall_zip_3 _ _ _) (fun obj => F.args_object_init_4 obj _ _ _) F.entry_zip_new
    (meets_zip3 l1 l2 l3 t1 t2 t3 xs ys zs) ⟨hl1, hl2, hl3, ?_⟩
  have p : ∀ {h : Heap} {c : Addr} {o u : PySem.Obj}, h.get? c = some o → (h.push u).get? c = some o := fun e => Heap.get?_push_of_some _ e
  have g1 : (s.heap.push (itO l1 t1)).get? s.heap.objs.size = some (itO l1 t1) := Heap.get?_push_size _ rfl
  have g2 : ((s.heap.push (itO l1 t1)).push (itO l2 t2)).get? (s.heap.objs.size + 1) = some (itO l2 t2) := by
    have := Heap.get?_push_size (s.heap.push (itO l1 t1)) (o := itO l2 t2) rfl
    rwa [Heap.size_push] at this
  have g2b : (((s.heap.push (itO l1 t1)).push (itO l2 t2)).push (itO l3 t3)).get? (s.heap.objs.size + 2) = some (itO l3 t3) := by
    have := Heap.get?_push_size ((s.heap.push (itO l1 t1)).push (itO l2 t2)) (o := itO l3 t3) rfl
    rwa [Heap.size_push, Heap.size_push] at this
  have g1' := p (u := itO l3 t3) (p (u := itO l2 t2) g1)
  have g2' := p (u := itO l3 t3) g2
  generalize hh : ((s.heap.push (itO l1 t1)).push (itO l2 t2)).push (itO l3 t3) = h2 at g2b g1' g2'
  have z2 : h2.objs.size = s.heap.objs.size + 3 := by rw [← hh, Heap.size_push, Heap.size_push, Heap.size_push]
  have k2 : ∀ c o, s.heap.get? c = some o → h2.get? c = some o := fun c o e => by rw [← hh]; exact p (p (p e))
  generalize ha : (#[.ref s.heap.objs.size, .ref (s.heap.objs.size + 1), .ref (s.heap.objs.size + 2)] : Array Value) = ra
  have g3 : (h2.push { cls := .type "tuple", data := .seq ra }).get? (s.heap.objs.size + 3) = some { cls := .type "tuple", data := .seq ra } := by
    rw [← z2]; exact Heap.get?_push_size _ rfl
  have g4 : ((h2.push { cls := .type "tuple", data := .seq ra }).push { cls := .type "tuple", data := .seq #[.none, .none, .none] }).get? (s.heap.objs.size + 4) = some { cls := .type "tuple", data := .seq #[.none, .none, .none] } := by
    have := Heap.get?_push_size (h2.push { cls := .type "tuple", data := .seq ra }) (o := { cls := .type "tuple", data := .seq #[.none, .none, .none] }) rfl
    rwa [Heap.size_push, z2] at this
  have g5 : (zp h2 (s.heap.objs.size + 3) ra #[.none, .none, .none]).get? (s.heap.objs.size + 5) = some { cls := .type "zip", data := .fields #[.none, .bool false, .bool false, .ref (s.heap.objs.size + 3), .ref (s.heap.objs.size + 4)] } := by
    have := Heap.get?_push_size ((h2.push { cls := .type "tuple", data := .seq ra }).push { cls := .type "tuple", data := .seq #[.none, .none, .none] }) (o := { cls := .type "zip", data := .fields #[.none, .bool false, .bool false, .ref (s.heap.objs.size + 3), .ref (s.heap.objs.size + 4)] }) rfl
    rwa [Heap.size_push, Heap.size_push, z2] at this
  refine ⟨⟨_, g5, rfl⟩, h _ ⟨g5, by have := p (u := { cls := .type "zip", data := .fields #[.none, .bool false, .bool false, .ref (s.heap.objs.size + 3), .ref (s.heap.objs.size + 4)] }) (p (u := { cls := .type "tuple", data := .seq #[.none, .none, .none] }) g3); rw [← ha] at this ⊢; exact this, p g4, fun j d hd => ?_, fun c o e => p (p (p (k2 c o e)))⟩⟩
  match j, hd with
  | 0, hd => cases hd; exact ⟨rfl, drAt_new (p (p (p g1')))⟩
  | 1, hd => cases hd; exact ⟨rfl, drAt_new (p (p (p g2')))⟩
  | 2, hd => cases hd; exact ⟨rfl, drAt_new (p (p (p g2b)))⟩
end
end Rf

/-! RfIt: what a for walks: sequences, enumerate, zip, of lists and tuples. -/
namespace Rf
open PySem PySem.Spec PyProof.Rows L2

def SqA (K : PySem.W.Frag) (H : Hp) (a : Addr) (tp : Bool) (xs : List V) : Prop := if tp = true then SqT K H a xs else SqL K H a xs
section
variable {X : Cx} {pins : List (Addr × PySem.Obj)} {σ : L2.St} {H : Hp} {s : Shared} {a it : Addr} {tp : Bool} {xs ys : List V}
theorem inv_sq (I : Inv X pins σ H s) (h : SqA X.K H a tp xs) : ∃ its : List Value, Vals xs its ∧ SqOk s.heap a tp its.toArray := by
  cases tp
  · obtain ⟨its, r, p, _⟩ := I.list h
    exact ⟨its, r, p.isList⟩
  · obtain ⟨its, r, p, _⟩ := I.tuple h
    exact ⟨its, r, p⟩
theorem inv_sq_inj (I : Inv X pins σ H s) (h : SqA X.K H a tp xs) (h' : SqA X.K H a tp ys) : xs = ys := by
  cases tp
  · exact I.list_inj h h'
  · exact I.tuple_inj h h'
theorem inv_sq_lt (I : Inv X pins σ H s) (h : SqA X.K H a tp xs) : a < s.heap.objs.size := by
  obtain ⟨its, r, p⟩ := inv_sq I h
  cases tp
  · obtain ⟨o, ho, _⟩ := (show s.heap.IsList a its.toArray from p); exact Heap.lt_size ho
  · obtain ⟨o, ho, _⟩ := (show s.heap.IsTuple a its.toArray from p); exact Heap.lt_size ho
end
/-- zip of the sequences ss -/
def ItzN (K : PySem.W.Frag) (ss : List (Addr × Bool)) : It :=
  ⟨fun i H => ∃ f : Nat → List V, ∀ (j : Nat) (p : Addr × Bool), ss[j]? = some p → SqA K H p.1 p.2 (f j) ∧ i < (f j).length,
   fun i H v H' => ∃ T vs, v = .ref T ∧ H T = none ∧ H' = upd H T (.tup vs) ∧ vs.length = ss.length ∧ ∀ (j : Nat) (p : Addr × Bool) (xs : List V), ss[j]? = some p → SqA K H p.1 p.2 xs → vs[j]? = xs[i]?,
   fun i H => ∃ f : Nat → List V, (∀ (j : Nat) (p : Addr × Bool), ss[j]? = some p → SqA K H p.1 p.2 (f j)) ∧ ∃ j, j < ss.length ∧ (f j).length ≤ i⟩
def dss (ds : List Dr) : List (Addr × Bool) := ds.map fun d => (d.l, d.tp)
theorem dss_at {ds : List Dr} {j : Nat} {d : Dr} (h : ds[j]? = some d) : (dss ds)[j]? = some (d.l, d.tp) := by
  unfold dss; rw [List.getElem?_map, h]; rfl
theorem turn_zipN {P : Program} {w : World} {K : PySem.W.Frag} {elts : List Expr} {kk : Nat} {tpos : Pos} {z TI TO : Addr} {ds : List Dr} (D : ZApart z TI TO ds) (hne : ds ≠ []) (hn : ds.length ≤ 100) :
    Turn P w K (.Tuple elts kk tpos) (ItzN K (dss ds)) (z :: TI :: TO :: ds.map (·.it)) z
      (fun i h => IsZip h z TI TO .none ∧ IsTupN h TI (ds.map fun d => Value.ref d.it).toArray ∧ (∃ arr, arr.size = ds.length ∧ IsTupN h TO arr) ∧ ∀ (j : Nat) (d : Dr), ds[j]? = some d → DrAt h d i) where
  mem := by simp
  obj := fun i h st c hc => by
    obtain ⟨hz, hTI, ⟨arr, _, hTO⟩, hat⟩ := st
    rcases List.mem_cons.mp hc with q | hc
    · rw [q]; exact ⟨_, hz, fun v q => nomatch q⟩
    rcases List.mem_cons.mp hc with q | hc
    · rw [q]; exact ⟨_, hTI, fun v q => nomatch q⟩
    rcases List.mem_cons.mp hc with q | hc
    · rw [q]; exact ⟨_, hTO, fun v q => nomatch q⟩
    obtain ⟨d, hd, rfl⟩ := List.mem_map.mp hc
    obtain ⟨j, hj⟩ := List.getElem?_of_mem hd
    exact (hat j d hj).lt
  keep := fun i h h' st k => by
    obtain ⟨hz, hTI, ⟨arr, ha, hTO⟩, hat⟩ := st
    refine ⟨k z (by simp) _ hz, k TI (by simp) _ hTI, ⟨arr, ha, k TO (by simp) _ hTO⟩, fun j d hd => (hat j d hd).at fun o q => k d.it ?_ o q⟩
    exact List.mem_cons_of_mem _ (List.mem_cons_of_mem _ (List.mem_cons_of_mem _ (List.mem_map.mpr ⟨d, List.mem_of_getElem? hd, rfl⟩)))
  item := by
    intro X hP hw hK hc i pins s σ H E I hf st hg
    subst hP hw hK
    obtain ⟨hz, hTI, ⟨arr, ha, hTO⟩, hat⟩ := st
    obtain ⟨f, hf'⟩ := hg
    have ex : ∀ j, ∃ its : List Value, ∀ d, ds[j]? = some d → Vals (f j) its ∧ DrSq s.heap d its.toArray := fun j => by
      cases hd : ds[j]? with
      | none => exact ⟨[], fun d e => by cases e⟩
      | some d =>
        obtain ⟨its, r, p⟩ := inv_sq I (hf' j _ (dss_at hd)).1
        exact ⟨its, fun d' e => by cases e; exact ⟨r, p⟩⟩
    obtain ⟨g, hgj⟩ := Classical.axiomOfChoice ex
    have hzl : z < s.heap.objs.size := Heap.lt_size hz
    refine pyNext_zip (sq := fun j => (g j).toArray) D hne hz hTI hTO ha hat (fun j d hd => (hgj j d hd).2) hn (fun j hj => ?_) fun h' arr' z' TI' TO' ha' hat' hT hxs hsz hk => ?_
    · have hd := List.getElem?_eq_getElem hj
      have h1 := (hgj j _ hd).1.length
      have h2 := (hf' j _ (dss_at hd)).2
      simp only [List.getElem?_toArray]
      rw [List.getElem?_eq_getElem (by omega)]; rfl
    · refine ⟨_, rfl, wpAny_letOwnedTupleGo_zip (s := { s with heap := h' }) z' fun h'' z'' sb => ?_⟩
      have hT2 : h''.get? s.heap.objs.size = some { cls := .type "tuple", data := .seq arr' } := (sb.2 _ (Nat.ne_of_gt hzl)).trans hT
      have exv : ∃ vs : List V, vs.length = ds.length ∧ Vals vs arr'.toList ∧ ∀ (j : Nat), j < ds.length → vs[j]? = (f j)[i]? := by
        have hv : ∀ j, j < ds.length → ∃ x, (f j)[i]? = some x := fun j hj => by
          have hd := List.getElem?_eq_getElem hj
          exact ⟨_, List.getElem?_eq_getElem (hf' j _ (dss_at hd)).2⟩
        refine ⟨(List.range ds.length).map fun j => ((f j)[i]?).getD .non, by simp, ?_, fun j hj => ?_⟩
        · have main : ∀ (n : Nat), n ≤ ds.length → Vals ((List.range n).map fun j => ((f j)[i]?).getD .non) (arr'.toList.take n) := by
            intro n
            induction n with
            | zero => intro _; exact .nil
            | succ n ih =>
              intro hn'
              have hd := List.getElem?_eq_getElem (show n < ds.length by omega)
              obtain ⟨x, hx⟩ := hv n (by omega)
              obtain ⟨u, hu, ru⟩ := (hgj n _ hd).1.get hx
              have e1 : arr'.toList[n]? = some u := by
                rw [Array.getElem?_toList, hxs n (by omega)]
                simpa using hu
              rw [List.range_succ, List.map_append, List.take_succ, e1]
              refine (ih (by omega)).append ?_
              rw [List.map_singleton, hx]
              exact .cons ru .nil
          have := main ds.length (Nat.le_refl _)
          rwa [List.take_of_length_le (by simp [ha'])] at this
        · rw [List.getElem?_map, List.getElem?_range hj]
          obtain ⟨x, hx⟩ := hv j hj
          simp [hx]
      obtain ⟨vs, hvl, hvv, hvi⟩ := exv
      have new : ObjOk X.prog X.w (upd H s.heap.objs.size (.tup vs)) h'' s.heap.objs.size (.tup vs) :=
        ⟨by rw [hvl, sizeLine_eq]; omega, arr'.toList, hvv, ⟨_, hT2, rfl, 0, by simp⟩⟩
      have I1 : Inv X pins σ (upd H s.heap.objs.size (.tup vs)) { s with heap := h'' } :=
        I.turnedNew (t' := s.toks) (ch := z :: TI :: TO :: ds.map (·.it)) (fun c o hb q => (sb.2 c (fun q' => hb (by simp [q']))).trans (hk c o (fun q' => hb (by simp [q'])) (fun q' => hb (by simp [q'])) (fun d hd q' => hb (by
          rw [q']; exact List.mem_cons_of_mem _ (List.mem_cons_of_mem _ (List.mem_cons_of_mem _ (List.mem_map.mpr ⟨d, hd, rfl⟩))))) q)) hf (Nat.le_refl _) new
      refine ⟨.ref s.heap.objs.size, _, I1, rfl, ⟨_, vs, rfl, I.hok.fresh (Nat.le_refl _), rfl, by rw [hvl]; simp [dss], fun j p xs hp hxs' => ?_⟩, ⟨z'', (sb.2 _ D.TIz).trans TI', ⟨arr', ha', (sb.2 _ D.TOz).trans TO'⟩, fun j d hd => (hat' j d hd).at fun o q => (sb.2 _ (D.itz d (List.mem_of_getElem? hd)).1).trans q⟩, fun c hcm => ?_⟩
      · have hj : j < ds.length := by
          have := (List.getElem?_eq_some_iff.mp hp).1
          simpa [dss] using this
        rw [inv_sq_inj I hxs' (hf' j p hp).1]
        exact hvi j hj
      · have hlt : c < s.heap.objs.size := by
          rcases List.mem_cons.mp hcm with q | hcm
          · rw [q]; exact hzl
          rcases List.mem_cons.mp hcm with q | hcm
          · rw [q]; exact Heap.lt_size hTI
          rcases List.mem_cons.mp hcm with q | hcm
          · rw [q]; exact Heap.lt_size hTO
          obtain ⟨d, hd, rfl⟩ := List.mem_map.mp hcm
          obtain ⟨j, hj⟩ := List.getElem?_of_mem hd
          obtain ⟨o, ho, _⟩ := (hat j d hj).lt
          exact Heap.lt_size ho
        rw [upd_ne (Nat.ne_of_lt hlt)]
        exact (hf c hcm).1
  done := by
    intro X hP hw hK hc i pins s σ H E I hf st hg
    subst hP hw hK
    obtain ⟨hz, hTI, ⟨arr, ha, hTO⟩, hat⟩ := st
    obtain ⟨f, hf', j0, hj0, hl0⟩ := hg
    have ex : ∀ j, ∃ its : List Value, ∀ d, ds[j]? = some d → Vals (f j) its ∧ DrSq s.heap d its.toArray := fun j => by
      cases hd : ds[j]? with
      | none => exact ⟨[], fun d e => by cases e⟩
      | some d =>
        obtain ⟨its, r, p⟩ := inv_sq I (hf' j _ (dss_at hd))
        exact ⟨its, fun d' e => by cases e; exact ⟨r, p⟩⟩
    obtain ⟨g, hgj⟩ := Classical.axiomOfChoice ex
    have hj0' : j0 < ds.length := by simpa [dss] using hj0
    refine pyNext_zip_end (sq := fun j => (g j).toArray) (I.ok.hd hc) D hne hz hTI hTO ha hat (fun j d hd => (hgj j d hd).2) hn ⟨j0, hj0', ?_⟩ fun h' hk => ⟨rfl, I.turnedL (t' := s.toks) (ch := z :: TI :: TO :: ds.map (·.it)) (fun c o hb q =>
      hk c o (fun q' => hb (by simp [q'])) (fun q' => hb (by simp [q'])) (fun d hd q' => hb (by
        rw [q']; exact List.mem_cons_of_mem _ (List.mem_cons_of_mem _ (List.mem_cons_of_mem _ (List.mem_map.mpr ⟨d, hd, rfl⟩))))) q) hf⟩
    have h1 := (hgj j0 _ (List.getElem?_eq_getElem hj0')).1.length
    simp only [List.getElem?_toArray]
    exact List.getElem?_eq_none (by omega)
  self := fun A i s Q E st h => wpAny_pyIter_zip st.1 h
end Rf

/-! RfIt2: the iterables that the subset has: a list or tuple, enumerate, zip. -/
namespace Rf
open PySem PySem.Spec PyProof.Rows L2
open Sem (wp)
open AutoSeq1 (wpAny_loadPart')

section
variable {prog : Program} {w : World} {A : Around} {E : Value → Shared → Prop} {s : Shared}
theorem enumerate_next {e : Addr} {d : Dr} {i : Nat} {items : Array Value} {x old : Value} {Q : Value → Shared → Prop}
    (he : IsEnum s.heap e d.it i old) (hit : DrAt s.heap d i) (hl : DrSq s.heap d items) (hx : items[i]? = some x) (hne : e ≠ d.it)
    (hQ : ∀ h', IsEnumOut h' e d.it ((i : Int) + 1) x s.heap.objs.size → DrAt h' d (i + 1) →
      h'.get? s.heap.objs.size = some { cls := .type "tuple", data := .seq #[.int i s.toks, x] } → h'.objs.size = s.heap.objs.size + 1 →
      (∀ b o, b ≠ e → b ≠ d.it → s.heap.get? b = some o → h'.get? b = some o) → Q (.ref s.heap.objs.size) { s with heap := h', toks := s.toks + 1 }) :
    wpAny (model prog w) A (Builtin.«enumerate.__next__» ⟨[.ref e], []⟩) (fun fin s' => ∃ v, fin = .done (.ret v) ∧ Q v s') E s := by
  obtain ⟨hp, g, dr, tk, os⟩ := s
  show wpAny _ _ (field (.ref e) 2 >>= _) _ _ _
  refine wpAny_bind (wpAny_field he rfl (x := .ref d.it) rfl ?_)
  refine wpAny_bind (dr_item hit hl hx fun h₁ hit₁ hs₁ => ?_)
  replace hs₁ : Heap.SameBut d.it hp h₁ := hs₁
  have he₁ : IsEnum h₁ e d.it i old := (hs₁.2 e hne).trans he
  show wpAny _ _ (field (.ref e) 3 >>= _) _ _ ⟨h₁, g, dr, tk, os⟩
  refine wpAny_bind (wpAny_field he₁ rfl (x := rawInt i) rfl ?_)
  show wpAny _ _ (field (.ref e) 4 >>= _) _ _ ⟨h₁, g, dr, tk, os⟩
  refine wpAny_bind (wpAny_field he₁ rfl (x := .none) rfl ?_)
  show wpAny _ _ (mkInt i >>= _) _ _ ⟨h₁, g, dr, tk, os⟩
  refine wpAny_bind (wpAny_mkInt ?_)
  show wpAny _ _ (setField (.ref e) 3 (rawInt ((i : Int) + 1)) >>= _) _ _ ⟨h₁, g, dr, tk + 1, os⟩
  refine wpAny_bind (wpAny_setField_rec he₁ (by simp) fun h₂ he₂ hs₂ => ?_)
  replace hs₂ : Heap.SameBut e h₁ h₂ := hs₂
  replace he₂ : IsEnum h₂ e d.it ((i : Int) + 1) old := he₂
  show wpAny _ _ (setField (.ref e) 4 .none >>= _) _ _ ⟨h₂, g, dr, tk + 1, os⟩
  refine wpAny_bind (wpAny_setField_rec he₂ (by simp) fun h₃ he₃ hs₃ => ?_)
  replace hs₃ : Heap.SameBut e h₂ h₃ := hs₃
  replace he₃ : IsEnum h₃ e d.it ((i : Int) + 1) old := he₃
  show wpAny _ _ (newTuple [.int i tk, x] >>= _) _ _ ⟨h₃, g, dr, tk + 1, os⟩
  refine wpAny_bind (wpAny_newTuple ?_)
  have he₄ : IsEnum (h₃.push { cls := .type "tuple", data := .seq #[.int i tk, x] }) e d.it ((i : Int) + 1) old := Heap.get?_push_of_some _ he₃
  generalize hh₄ : h₃.push { cls := .type "tuple", data := .seq #[.int i tk, x] } = h₄ at he₄
  have hsz : h₃.objs.size = hp.objs.size := by rw [hs₃.1, hs₂.1, hs₁.1]
  have hel : e < hp.objs.size := Heap.lt_size he
  have ht₄ : h₄.get? hp.objs.size = some { cls := .type "tuple", data := .seq #[.int i tk, x] } := by rw [← hh₄, ← hsz]; exact Heap.get?_push_size _ rfl
  have hz₄ : h₄.objs.size = hp.objs.size + 1 := by rw [← hh₄, Heap.size_push, hsz]
  have hk₄ : ∀ b o, b ≠ e → b ≠ d.it → hp.get? b = some o → h₄.get? b = some o := fun b o hbe hbi hb => by
    rw [← hh₄]; exact Heap.get?_push_of_some _ (hs₃.extBut b o hbe (hs₂.extBut b o hbe (hs₁.extBut b o hbi hb)))
  have hit₄ : DrAt h₄ d (i + 1) := hit₁.at fun o ho => by
    rw [← hh₄]; exact Heap.get?_push_of_some _ (hs₃.extBut _ _ (Ne.symm hne) (hs₂.extBut _ _ (Ne.symm hne) ho))
  show wpAny _ _ (Builtin.SmallTypes.ownedTupleIsFree (.ref e) >>= _) _ _ ⟨h₄, g, dr, tk + 1, os⟩
  rw [hsz]
  clear hh₄ he₃ hs₃ he₂ hs₂ he₁ hs₁ hit₁ hsz h₃ h₂ h₁
  refine wpAny_bind ?_
  · unfold Builtin.SmallTypes.ownedTupleIsFree
    refine wpAny_bind (wpAny_field he₄ rfl (x := .none) rfl (wpAny_pure ?_))
    simp only [if_true]
    refine wpAny_bind (wpAny_rule ?_)
    refine wpAny_bind (wpAny_field he₄ rfl (x := old) rfl ?_)
    refine wpAny_bind (wpAny_setField_rec he₄ (by simp) fun h₅ he₅ hs₅ => ?_)
    replace hs₅ : Heap.SameBut e h₄ h₅ := hs₅
    replace he₅ : IsEnum h₅ e d.it ((i : Int) + 1) x := he₅
    show wpAny _ _ (Builtin.SmallTypes.ownedTupleHandOut (.ref e) (.ref hp.objs.size) >>= _) _ _ ⟨h₅, g, dr, tk + 1, os⟩
    refine wpAny_bind ?_
    · unfold Builtin.SmallTypes.ownedTupleHandOut
      refine wpAny_bind (wpAny_setField_rec he₅ (by simp) fun h₆ he₆ hs₆ => ?_)
      replace hs₆ : Heap.SameBut e h₅ h₆ := hs₆
      replace he₆ : IsEnumOut h₆ e d.it ((i : Int) + 1) x hp.objs.size := he₆
      refine wpAny_setField_rec he₆ (by simp) fun h₇ he₇ hs₇ => ?_
      replace hs₇ : Heap.SameBut e h₆ h₇ := hs₇
      replace he₇ : IsEnumOut h₇ e d.it ((i : Int) + 1) x hp.objs.size := he₇
      refine wpAny_bind (wpAny_letGo (wpAny_pure ⟨_, rfl, hQ h₇ he₇ ?_ ?_ ?_ ?_⟩))
      · exact hit₄.at fun o ho => hs₇.extBut _ _ (Ne.symm hne) (hs₆.extBut _ _ (Ne.symm hne) (hs₅.extBut _ _ (Ne.symm hne) ho))
      · exact hs₇.extBut _ _ (Nat.ne_of_gt hel) (hs₆.extBut _ _ (Nat.ne_of_gt hel) (hs₅.extBut _ _ (Nat.ne_of_gt hel) ht₄))
      · rw [hs₇.1, hs₆.1, hs₅.1, hz₄]
      · exact fun b o hbe hbi hb => hs₇.extBut b o hbe (hs₆.extBut b o hbe (hs₅.extBut b o hbe (hk₄ b o hbe hbi hb)))

theorem pyNext_enum {e : Addr} {d : Dr} {i : Nat} {items : Array Value} {x old : Value} {Q : Option Value → Shared → Prop}
    (he : IsEnum s.heap e d.it i old) (hit : DrAt s.heap d i) (hl : DrSq s.heap d items) (hx : items[i]? = some x) (hne : e ≠ d.it)
    (hQ : ∀ h', IsEnumOut h' e d.it ((i : Int) + 1) x s.heap.objs.size → DrAt h' d (i + 1) →
      h'.get? s.heap.objs.size = some { cls := .type "tuple", data := .seq #[.int i s.toks, x] } → h'.objs.size = s.heap.objs.size + 1 →
      (∀ b o, b ≠ e → b ≠ d.it → s.heap.get? b = some o → h'.get? b = some o) → Q (some (.ref s.heap.objs.size)) { s with heap := h', toks := s.toks + 1 }) :
    wpAny (model prog w) A (pyNext (.ref e)) Q E s := by
  have hT : s.TypeIs (.ref e) "enumerate" := ⟨_, he, rfl⟩
  unfold pyNext
  exact wpAny_bind (wpAny_attempt (wpAny_callSpecial?_slot (name := Str.ofString "__next__") hT PySem.F.slot_enumerate_next
    (wpAny_call_entry PySem.F.slot_enumerate_next hT PySem.F.entry_enumerate_next
      (enumerate_next he hit hl hx hne fun h' a b c d k => wpAny_pure (hQ h' a b c d k)) (PySem.F.args_enumerate_next_1 _))))
theorem pyNext_enum_end {e : Addr} {d : Dr} {i : Nat} {items : Array Value} {old : Value} {Q : Option Value → Shared → Prop} (hh : A.handled = none)
    (he : IsEnum s.heap e d.it i old) (hit : DrAt s.heap d i) (hl : DrSq s.heap d items) (hx : items[i]? = none)
    (hQ : ∀ h', Heap.ExtBut d.it s.heap h' → Q none { s with heap := h' }) : wpAny (model prog w) A (pyNext (.ref e)) Q E s := by
  have hT : s.TypeIs (.ref e) "enumerate" := ⟨_, he, rfl⟩
  unfold pyNext
  refine wpAny_bind (wpAny_attempt (wpAny_callSpecial?_slot (name := Str.ofString "__next__") hT PySem.F.slot_enumerate_next
    (wpAny_call_entry PySem.F.slot_enumerate_next hT PySem.F.entry_enumerate_next ?_ (PySem.F.args_enumerate_next_1 _))))
  show wpAny _ _ (field (.ref e) 2 >>= _) _ _ _
  refine wpAny_bind (wpAny_field he rfl (x := .ref d.it) rfl ?_)
  refine wpAny_bind (dr_end hh hit hl hx fun h' x he' hx' => ?_)
  obtain ⟨o, ho, hc⟩ := hx'
  refine wpAny_bind (wpAny_isInstance (T := "StopIteration") (b := true) ⟨o, ho, hc⟩ isSubtype_stop ?_)
  exact wpAny_pure (hQ _ he')
end
theorem meets_enumN (l : Addr) (tp : Bool) (xs : Array Value) :
    Meets (Builtin.«enumerate.__new__» ⟨[.type "enumerate", .ref l], []⟩) (fun _ R s => SqOk s.heap l tp xs ∧
      R (.ok (.ret (.ref (s.heap.objs.size + 1)))) { s with heap := (s.heap.push (itO l tp)).push { cls := .type "enumerate", data := .fields #[.none, .bool false, .ref s.heap.objs.size, rawInt 0, .none, .none] } }) :=
  .of_wp fun prog w A R s h => by
    obtain ⟨hp, g, d, tk, os⟩ := s; obtain ⟨hl, h⟩ := h
    have hsub := sub_enumerate
    have hL : DrSq (Shared.heap ⟨hp, g, d, tk, os⟩) ⟨0, l, tp⟩ xs := hl
    wp_walk
    refine wpAny_stack_any fun st => wpAny_pure ?_
    split
    · rename_i c _ _ _ _ _
      cases (c == Value.type "enumerate")
      · wp_walk using dr_iter hL
        refine ⟨_, rfl, ?_⟩
        simp only [Heap.size_push]
        exact h
      · wp_walk using dr_iter hL
        refine ⟨_, rfl, ?_⟩
        simp only [Heap.size_push]
        exact h
    · wp_walk using dr_iter hL
      refine ⟨_, rfl, ?_⟩
      simp only [Heap.size_push]
      exact h
section
variable {prog : Program} {w : World} {A : Around} {E : Value → Shared → Prop} {s : Shared}
theorem call_enumN {l : Addr} {tp : Bool} {xs : Array Value} {Q : Value → Shared → Prop} (hL : SqOk s.heap l tp xs)
    (h : ∀ h', IsEnum h' (s.heap.objs.size + 1) s.heap.objs.size 0 .none → DrAt h' ⟨s.heap.objs.size, l, tp⟩ 0 →
      (∀ b o, s.heap.get? b = some o → h'.get? b = some o) → Q (.ref (s.heap.objs.size + 1)) { s with heap := h' }) :
    wpAny (model prog w) A (call (.type "enumerate") [.ref l]) Q E s := by
  refine callType_new PySem.F.called_enumerate (by decide) (PySem.F.typeCall_enumerate_1 _) (PySem.F.newCall_enumerate_1 _) (fun obj => PySem.F.args_object_init_2 obj _) PySem.F.entry_enumerate_new
    (meets_enumN l tp xs) ⟨hL, ?_⟩
  have hz : (s.heap.push (itO l tp)).objs.size = s.heap.objs.size + 1 := Heap.size_push ..
  have he : IsEnum ((s.heap.push (itO l tp)).push { cls := .type "enumerate", data := .fields #[.none, .bool false, .ref s.heap.objs.size, rawInt 0, .none, .none] }) (s.heap.objs.size + 1) s.heap.objs.size 0 .none := by
    have := Heap.get?_push_size (s.heap.push (itO l tp)) (o := { cls := .type "enumerate", data := .fields #[.none, .bool false, .ref s.heap.objs.size, rawInt 0, .none, .none] }) rfl
    rw [hz] at this; exact this
  exact ⟨⟨_, he, rfl⟩, h _ he (drAt_new (Heap.get?_push_of_some _ (Heap.get?_push_size _ rfl))) fun b o x => Heap.get?_push_of_some _ (Heap.get?_push_of_some _ x)⟩
end
/-- enumerate of the sequence at p -/
def IteN (K : PySem.W.Frag) (p : Addr × Bool) : It :=
  ⟨fun i H => ∃ xs : List V, SqA K H p.1 p.2 xs ∧ i < xs.length,
   fun i H v H' => ∃ T x, v = .ref T ∧ H T = none ∧ H' = upd H T (.tup [.int (i : Nat), x]) ∧ ∀ xs, SqA K H p.1 p.2 xs → xs[i]? = some x,
   fun i H => ∃ xs : List V, SqA K H p.1 p.2 xs ∧ xs.length ≤ i⟩
theorem turn_enumN {P : Program} {w : World} {K : PySem.W.Frag} {elts : List Expr} {kk : Nat} {tpos : Pos} (e : Addr) (d : Dr) :
    Turn P w K (.Tuple elts kk tpos) (IteN K (d.l, d.tp)) [e, d.it] e (fun i h => (∃ old, IsEnum h e d.it ((i : Nat) : Int) old) ∧ DrAt h d i ∧ e ≠ d.it) where
  mem := by simp
  obj := fun i h st b hb => by
    obtain ⟨⟨old, he⟩, hd, _⟩ := st
    have e' : b = e ∨ b = d.it := by simpa using hb
    rcases e' with z | z
    · rw [z]; exact ⟨_, he, fun v q => nomatch q⟩
    · rw [z]; exact hd.lt
  keep := fun i h h' st k => let ⟨⟨old, he⟩, hi, hne⟩ := st; ⟨⟨old, k e (by simp) _ he⟩, hi.at fun o q => k d.it (by simp) o q, hne⟩
  item := by
    intro X hP hw hK hc i pins s σ H E I hf st hg
    subst hP hw hK
    obtain ⟨⟨old, he⟩, hit, hne⟩ := st
    obtain ⟨xs, hq, hx⟩ := hg
    obtain ⟨its, rv, p⟩ := inv_sq I hq
    obtain ⟨u, hu, ru⟩ := rv.get (List.getElem?_eq_getElem hx)
    have hel : e < s.heap.objs.size := Heap.lt_size he
    have hil : d.it < s.heap.objs.size := by obtain ⟨_, q, _⟩ := hit.lt; exact Heap.lt_size q
    refine pyNext_enum he hit (show DrSq s.heap d its.toArray from p) (x := u) (by simpa using hu) hne fun h' ho hit' hT hsz hk => ?_
    refine ⟨_, rfl, wpAny_letOwnedTupleGo_enum (s := { s with heap := h', toks := s.toks + 1 }) ho fun h'' he' sb => ?_⟩
    have hT2 : h''.get? s.heap.objs.size = some { cls := .type "tuple", data := .seq #[.int i s.toks, u] } := (sb.2 _ (Nat.ne_of_gt hel)).trans hT
    have new : ObjOk X.prog X.w (upd H s.heap.objs.size (.tup [.int (i : Nat), xs[i]])) h'' s.heap.objs.size (.tup [.int (i : Nat), xs[i]]) :=
      ⟨by show 2 ≤ sizeLine; decide, [.int i s.toks, u], .cons ⟨_, rfl⟩ (.cons ru .nil), ⟨_, hT2, rfl, _, rfl⟩⟩
    have I1 : Inv X pins σ (upd H s.heap.objs.size (.tup [.int (i : Nat), xs[i]])) { s with heap := h'', toks := s.toks + 1 } :=
      I.turnedNew (ch := [e, d.it]) (fun b ob hb q => (sb.2 b (fun z => hb (by simp [z]))).trans (hk b ob (fun z => hb (by simp [z])) (fun z => hb (by simp [z])) q)) hf (Nat.le_refl _) new
    refine ⟨.ref s.heap.objs.size, _, I1, rfl, ⟨_, xs[i], rfl, I.hok.fresh (Nat.le_refl _), rfl, fun ys hy => by rw [inv_sq_inj I hy hq]; exact List.getElem?_eq_getElem hx⟩, ⟨⟨u, ?_⟩, hit'.at fun o q => (sb.2 d.it (Ne.symm hne)).trans q, hne⟩, fun b hb => ?_⟩
    · have e1 : ((i + 1 : Nat) : Int) = (i : Int) + 1 := by omega
      rw [e1]; exact he'
    · have hb' : b < s.heap.objs.size := by
        have e' : b = e ∨ b = d.it := by simpa using hb
        rcases e' with z | z
        · rw [z]; exact hel
        · rw [z]; exact hil
      rw [upd_ne (Nat.ne_of_lt hb')]
      exact (hf b hb).1
  done := by
    intro X hP hw hK hc i pins s σ H E I hf st hg
    subst hP hw hK
    obtain ⟨⟨old, he⟩, hit, hne⟩ := st
    obtain ⟨xs, hq, hx⟩ := hg
    obtain ⟨its, rv, p⟩ := inv_sq I hq
    obtain ⟨f0, f1, f2, f3, f4, f5⟩ := hf d.it (by simp)
    have hl := rv.length
    exact pyNext_enum_end (I.ok.hd hc) he hit (show DrSq s.heap d its.toArray from p) (by simp; omega) fun h' eb => ⟨rfl, I.turned (t' := s.toks) (fun b o hb q => eb b o hb q) f0 f1 f3 f4 f5⟩
  self := fun A i s Q E st h => let ⟨⟨_, he⟩, _⟩ := st; wpAny_pyIter_enum he h
def iEnumN (K : PySem.W.Frag) (ta : TA) : TI := fun σ H R => ta σ H fun vs H1 => ∃ (p : Addr × Bool) (xs : List V), vs = [.ref p.1] ∧ SqA K H1 p.1 p.2 xs ∧ R (IteN K p) H1
theorem pi_enumN {X : Cx} {e : Expr} {ta : TA} {p pos tpos : Pos} {elts : List Expr} {kk : Nat} (hg : Gl X "enumerate") (hm : X.mg "enumerate" = none) (ha : PA X [e] ta) (hs : starEach [e] X.env = [(false, eval e X.env)] := by rfl) :
    PI X (.Tuple elts kk tpos) (.Call (.Name "enumerate" p) [e] [] pos) (iEnumN X.K ta) := by
  refine ⟨fun pins s σ H R I h => ?_⟩
  refine Call_ (ld_blt I hg hm boot_enumerate (PyProof.Rows.callWith_type1 (thn (ha.run pos pins s σ H _ I h) fun us s1 ⟨vs, H1, I1, r1, q1⟩ => ?_) hs rfl))
  obtain ⟨⟨a, tp⟩, xs, ex, hq, q⟩ := q1
  subst ex
  cases r1 with
  | cons r rr =>
    cases rr
    cases r
    obtain ⟨its, rv, p'⟩ := inv_sq I1 hq
    refine call_enumN p' fun h' he hit hk => wpAny_pyIter_enum he ?_
    have I2 : Inv X pins σ H1 { s1 with heap := h' } := I1.kept (t' := s1.toks) hk
    refine ⟨s1.heap.objs.size + 1, [s1.heap.objs.size + 1, s1.heap.objs.size], _, _, H1, rfl, I2, turn_enumN (s1.heap.objs.size + 1) ⟨s1.heap.objs.size, a, tp⟩, ⟨⟨.none, he⟩, hit, Nat.succ_ne_self _⟩, fun b hb => ?_, q⟩
    have e' : b = s1.heap.objs.size + 1 ∨ b = s1.heap.objs.size := by simpa using hb
    have hle : s1.heap.objs.size ≤ b := by
      rcases e' with z | z
      · rw [z]; exact Nat.le_add_right _ _
      · rw [z]; exact Nat.le_refl _
    exact I1.fpOk hle (I1.hok.fresh hle)

/-! ### zip -/
theorem zapart_new {n : Nat} {ds : List Dr} (hit : ∀ (j : Nat) (d : Dr), ds[j]? = some d → d.it = n + j) (hl : ∀ d ∈ ds, d.l < n) : ZApart (n + ds.length + 2) (n + ds.length) (n + ds.length + 1) ds := by
  have hi : ∀ d ∈ ds, Nat.le n d.it ∧ Nat.lt d.it (n + ds.length) := fun d hd => by
    obtain ⟨j, hj⟩ := List.getElem?_of_mem hd
    have e : @Eq Nat d.it (n + j) := hit j d hj
    have := (List.getElem?_eq_some_iff.mp hj).1
    rw [e]
    exact ⟨Nat.le_add_right _ _, Nat.add_lt_add_left this n⟩
  refine ⟨fun q => ?_, fun q => ?_, fun q => ?_, ?_, fun d hd => ?_, fun d hd => ?_⟩
  · have : n + ds.length = n + ds.length + 2 := q
    omega
  · have : n + ds.length + 1 = n + ds.length + 2 := q
    omega
  · have : n + ds.length = n + ds.length + 1 := q
    omega
  · have e : ds.map (·.it) = List.range' n ds.length := by
      refine List.ext_getElem? fun j => ?_
      by_cases hj : j < ds.length
      · rw [List.getElem?_map, List.getElem?_range' hj, List.getElem?_eq_getElem hj, Option.map_some, hit j _ (List.getElem?_eq_getElem hj), Nat.one_mul]
      · rw [List.getElem?_eq_none (by simp; omega), List.getElem?_eq_none (by simp; omega)]
    rw [e]
    exact List.nodup_range'
  · obtain ⟨h1, h2⟩ := hi d hd
    have key : ∀ y : Nat, n + ds.length ≤ y → ¬ @Eq Nat d.it y := fun y hy q => by
      rw [q] at h2
      exact absurd (show y < n + ds.length from h2) (Nat.not_lt.mpr hy)
    exact ⟨key _ (Nat.le_add_right _ _), key _ (Nat.le_refl _), key _ (Nat.le_add_right _ _)⟩
  · have h1 := hl d hd
    have key : ∀ y : Nat, n ≤ y → ¬ @Eq Nat d.l y := fun y hy q => by
      have h1' : Nat.lt d.l n := h1
      rw [q] at h1'
      exact absurd (show y < n from h1') (Nat.not_lt.mpr hy)
    exact ⟨key _ (by omega), key _ (by omega), fun d' hd' => key _ (hi d' hd').1⟩
/-- zip just made -/
theorem pie_zip {X : Cx} {pins : List (Addr × PySem.Obj)} {σ : L2.St} {H : Hp} {s : Shared} {elts : List Expr} {kk : Nat} {tpos : Pos} {R : It → Hp → Prop} {E : Value → Shared → Prop} {ds : List Dr} {h' : Heap} (I : Inv X pins σ H s) (hne : ds ≠ []) (hn : ds.length ≤ 100)
    (hl : ∀ d ∈ ds, d.l < s.heap.objs.size) (Z : ZNew s.heap.objs.size s.heap h' ds) (q : R (ItzN X.K (dss ds)) H) :
    wpAny (model X.prog X.w) X.A (pyIter (.ref (s.heap.objs.size + ds.length + 2))) (PIE X pins σ (.Tuple elts kk tpos) R) E { s with heap := h' } := by
  refine wpAny_pyIter_zip Z.zz ?_
  have I2 : Inv X pins σ H { s with heap := h' } := I.kept (t' := s.toks) Z.keep
  refine ⟨s.heap.objs.size + ds.length + 2, (s.heap.objs.size + ds.length + 2) :: (s.heap.objs.size + ds.length) :: (s.heap.objs.size + ds.length + 1) :: ds.map (·.it), _, _, H, rfl, I2, turn_zipN (zapart_new (fun j d hd => (Z.at_ j d hd).1) hl) hne hn,
    ⟨Z.zz, Z.ti, ⟨_, by simp, Z.to⟩, fun j d hd => (Z.at_ j d hd).2⟩, fun c hcm => ?_, q⟩
  have hle : s.heap.objs.size ≤ c := by
    rcases List.mem_cons.mp hcm with z | hcm
    · rw [z]; exact Nat.le_trans (Nat.le_add_right _ _) (Nat.le_add_right _ _)
    rcases List.mem_cons.mp hcm with z | hcm
    · rw [z]; exact Nat.le_add_right _ _
    rcases List.mem_cons.mp hcm with z | hcm
    · rw [z]; exact Nat.le_trans (Nat.le_add_right _ _) (Nat.le_add_right _ _)
    obtain ⟨d, hd, rfl⟩ := List.mem_map.mp hcm
    obtain ⟨j, hj⟩ := List.getElem?_of_mem hd
    rw [(Z.at_ j d hj).1]; exact Nat.le_add_right _ _
  exact I.fpOk hle (I.hok.fresh hle)
/-- zip of the sequences that the arguments are -/
def iZipN (K : PySem.W.Frag) (ta : TA) : TI := fun σ H R => ta σ H fun vs H1 => ∃ ss : List (Addr × Bool), vs = ss.map (fun p => V.ref p.1) ∧ (∀ p ∈ ss, ∃ xs, SqA K H1 p.1 p.2 xs) ∧ R (ItzN K ss) H1
theorem vals_refs {ss : List (Addr × Bool)} {us : List Value} (r : Vals (ss.map fun p => V.ref p.1) us) : us = ss.map fun p => Value.ref p.1 := by
  induction ss generalizing us with
  | nil => cases r; rfl
  | cons p ss ih =>
    cases r with
    | cons r rr => cases r; rw [ih rr]; rfl
theorem pi_zip2 {X : Cx} {e e2 : Expr} {ta : TA} {p pos tpos : Pos} {elts : List Expr} {kk : Nat} (hg : Gl X "zip") (hm : X.mg "zip" = none) (ha : PA X [e, e2] ta)
    (hs : starEach [e, e2] X.env = (false, eval e X.env) :: starEach [e2] X.env) (hpl : (backTo pos (starEach [e2] X.env)).any (·.1) = false) (hlen : ∀ σ H Q, ta σ H Q → ta σ H fun vs H1 => vs.length = 2 ∧ Q vs H1) :
    PI X (.Tuple elts kk tpos) (.Call (.Name "zip" p) [e, e2] [] pos) (iZipN X.K ta) := by
  refine ⟨fun pins s σ H R I h => ?_⟩
  refine Call_ (ld_blt I hg hm PyProof.Rows.boot_zip (PyProof.Rows.callWith_type1 (thn (ha.run pos pins s σ H _ I (hlen _ _ _ h)) fun us s1 ⟨vs, H1, I1, r1, q1⟩ => ?_) hs hpl))
  obtain ⟨hln, ss, ex, hq, q⟩ := q1
  subst ex
  have e := vals_refs r1
  subst e
  match ss, hln, hq, q, r1 with
  | [(a, t1), (b, t2)], _, hq, q, r1 =>
    obtain ⟨xs, hx⟩ := hq (a, t1) (by simp)
    obtain ⟨ys, hy⟩ := hq (b, t2) (by simp)
    obtain ⟨its, rv, p'⟩ := inv_sq I1 hx
    obtain ⟨its2, rv2, p2⟩ := inv_sq I1 hy
    refine call_zip2 p' p2 fun h' Z => pie_zip (ds := [⟨s1.heap.objs.size, a, t1⟩, ⟨s1.heap.objs.size + 1, b, t2⟩]) I1 (by simp) (by simp) (fun d hd => ?_) Z q
    have e' : d = ⟨s1.heap.objs.size, a, t1⟩ ∨ d = ⟨s1.heap.objs.size + 1, b, t2⟩ := by simpa using hd
    rcases e' with z | z
    · rw [z]; exact inv_sq_lt I1 hx
    · rw [z]; exact inv_sq_lt I1 hy
theorem pi_zip3 {X : Cx} {e e2 e3 : Expr} {ta : TA} {p pos tpos : Pos} {elts : List Expr} {kk : Nat} (hg : Gl X "zip") (hm : X.mg "zip" = none) (ha : PA X [e, e2, e3] ta)
    (hs : starEach [e, e2, e3] X.env = (false, eval e X.env) :: starEach [e2, e3] X.env) (hpl : (backTo pos (starEach [e2, e3] X.env)).any (·.1) = false) (hlen : ∀ σ H Q, ta σ H Q → ta σ H fun vs H1 => vs.length = 3 ∧ Q vs H1) :
    PI X (.Tuple elts kk tpos) (.Call (.Name "zip" p) [e, e2, e3] [] pos) (iZipN X.K ta) := by
  refine ⟨fun pins s σ H R I h => ?_⟩
  refine Call_ (ld_blt I hg hm PyProof.Rows.boot_zip (PyProof.Rows.callWith_type1 (thn (ha.run pos pins s σ H _ I (hlen _ _ _ h)) fun us s1 ⟨vs, H1, I1, r1, q1⟩ => ?_) hs hpl))
  obtain ⟨hln, ss, ex, hq, q⟩ := q1
  subst ex
  have e := vals_refs r1
  subst e
  match ss, hln, hq, q, r1 with
  | [(a, t1), (b, t2), (c, t3)], _, hq, q, r1 =>
    obtain ⟨xs, hx⟩ := hq (a, t1) (by simp)
    obtain ⟨ys, hy⟩ := hq (b, t2) (by simp)
    obtain ⟨zs, hz⟩ := hq (c, t3) (by simp)
    obtain ⟨its, rv, p'⟩ := inv_sq I1 hx
    obtain ⟨its2, rv2, p2⟩ := inv_sq I1 hy
    obtain ⟨its3, rv3, p3⟩ := inv_sq I1 hz
    refine call_zip3 p' p2 p3 fun h' Z => pie_zip (ds := [⟨s1.heap.objs.size, a, t1⟩, ⟨s1.heap.objs.size + 1, b, t2⟩, ⟨s1.heap.objs.size + 2, c, t3⟩]) I1 (by simp) (by simp) (fun d hd => ?_) Z q
    have e' : d = ⟨s1.heap.objs.size, a, t1⟩ ∨ d = ⟨s1.heap.objs.size + 1, b, t2⟩ ∨ d = ⟨s1.heap.objs.size + 2, c, t3⟩ := by simpa using hd
    rcases e' with z | z | z
    · rw [z]; exact inv_sq_lt I1 hx
    · rw [z]; exact inv_sq_lt I1 hy
    · rw [z]; exact inv_sq_lt I1 hz
/-- a list or a tuple -/
def ItS (K : PySem.W.Frag) (p : Addr × Bool) : It := if p.2 = true then Itt K p.1 else Itl K p.1
def iSeq (K : PySem.W.Frag) (tl : TE) : TI := fun σ H R => tl σ H fun x H1 => ∃ p : Addr × Bool, x = .ref p.1 ∧ (∃ xs, SqA K H1 p.1 p.2 xs) ∧ R (ItS K p) H1
theorem pi_seq {X : Cx} {tg l : Expr} {tl : TE} (hl : PE X l tl) : PI X tg l (iSeq X.K tl) := by
  refine ⟨fun pins s σ H R I h => ?_⟩
  refine thn (hl.run pins s σ H _ I h) fun v s1 ⟨x, H1, I1, r1, q1⟩ => ?_
  obtain ⟨⟨a, tp⟩, e, ⟨xs, hq⟩, q⟩ := q1
  subst e
  cases r1
  obtain ⟨its, rv, p⟩ := inv_sq I1 hq
  cases tp
  · refine wpAny_pyIter_list (show s1.heap.IsList a its.toArray from p) ?_
    refine ⟨s1.heap.objs.size, [s1.heap.objs.size], _, _, H1, rfl, I1.kept (t' := s1.toks) fun b o e => Heap.get?_push_of_some _ e, turn_list a _, ⟨_, Heap.get?_push_size _ rfl, rfl, rfl⟩, fun b hb => ?_, q⟩
    have e : b = s1.heap.objs.size := by simpa using hb
    subst e
    exact I1.fpOk (Nat.le_refl _) (I1.hok.fresh (Nat.le_refl _))
  · refine wpAny_pyIter_tuple (show s1.heap.IsTuple a its.toArray from p) ?_
    refine ⟨s1.heap.objs.size, [s1.heap.objs.size], _, _, H1, rfl, I1.kept (t' := s1.toks) fun b o e => Heap.get?_push_of_some _ e, turn_tuple a _, ⟨_, Heap.get?_push_size _ rfl, rfl, rfl⟩, fun b hb => ?_, q⟩
    have e : b = s1.heap.objs.size := by simpa using hb
    subst e
    exact I1.fpOk (Nat.le_refl _) (I1.hok.fresh (Nat.le_refl _))
end Rf

/-! RfZipF: for x in zip(..) with one name: the tuple that is handed out stays. -/
namespace Rf
open PySem PySem.Spec PyProof.Rows L2
section
variable {prog : Program} {w : World} {A : Around} {E : Value → Shared → Prop} {s : Shared}
theorem load_any {T : Addr} {Q : Option PySem.Obj → Shared → Prop} (h : Q (s.heap.get? T) s) : wpAny (model prog w) A (loadIfAlive T) Q E s := fun _ _ _ => h
theorem free_dead {z TI TO T : Addr} {b : Bool} {Q : Bool → Shared → Prop} (hz : IsZipG s.heap z TI TO (rawInt T) b) (hT : s.heap.get? T = none) (h : Q true s) : wpAny (model prog w) A (Builtin.SmallTypes.ownedTupleIsFree (.ref z)) Q E s := by
  unfold Builtin.SmallTypes.ownedTupleIsFree
  refine wpAny_bind (wpAny_field hz rfl (x := rawInt T) rfl ?_)
  show wpAny _ _ (loadIfAlive ((T : Int).toNat) >>= _) _ _ _
  rw [Int.toNat_natCast]
  refine wpAny_bind (load_any ?_)
  rw [hT]
  simp only [Option.isNone_none, if_true]
  exact wpAny_pure h
theorem free_held {z TI TO T : Addr} {b : Bool} {oT : PySem.Obj} {Q : Bool → Shared → Prop} (hz : IsZipG s.heap z TI TO (rawInt T) b) (hT : s.heap.get? T = some oT)
    (h : ∀ h', IsZipG h' z TI TO (rawInt T) true → Heap.SameBut z s.heap h' → Q false { s with heap := h' }) : wpAny (model prog w) A (Builtin.SmallTypes.ownedTupleIsFree (.ref z)) Q E s := by
  unfold Builtin.SmallTypes.ownedTupleIsFree
  refine wpAny_bind (wpAny_field hz rfl (x := rawInt T) rfl ?_)
  show wpAny _ _ (loadIfAlive ((T : Int).toNat) >>= _) _ _ _
  rw [Int.toNat_natCast]
  refine wpAny_bind (load_any ?_)
  rw [hT]
  simp only [Option.isNone_some, Bool.false_eq_true, if_false]
  refine wpAny_bind (wpAny_field hz rfl (x := .bool b) rfl ?_)
  cases b with
  | true =>
    rw [if_neg (show ¬ ((Value.bool true != Value.bool true) = true) from Bool.false_ne_true)]
    exact wpAny_pure (h s.heap hz (Heap.SameBut.refl _ _))
  | false =>
    rw [if_pos (show (Value.bool false != Value.bool true) = true from rfl)]
    exact wpAny_bind (wpAny_setField_rec hz (by simp) fun h₁ hz₁ hs₁ => wpAny_pure (h h₁ hz₁ hs₁))
/-- behind k draws, the items gathered -/
structure HMid (s0 : Shared) (z TI TO T : Addr) (ds : List Dr) (sq : Nat → Array Value) (i : Nat) (items : Array Value) (k : Nat) (h : Heap) : Prop where
  zz : IsZipG h z TI TO (rawInt T) true
  ti : IsTupN h TI (ds.map fun d => Value.ref d.it).toArray
  at_ : ∀ (j : Nat) (d : Dr), ds[j]? = some d → DrAt h d (if j < k then i + 1 else i)
  sq_ : ∀ (j : Nat) (d : Dr), ds[j]? = some d → DrSq h d (sq j)
  sz : h.objs.size = s0.heap.objs.size
  keep : ∀ c o, c ≠ z → (∀ d ∈ ds, c ≠ d.it) → s0.heap.get? c = some o → h.get? c = some o
  al : items.size = k
  done : ∀ j, j < k → items[j]? = (sq j)[i]?
theorem HMid.step {s0 : Shared} {z TI TO T : Addr} {ds : List Dr} {sq : Nat → Array Value} {i k : Nat} {items : Array Value} {h h' : Heap} {d : Dr} {x : Value} (D : ZApart z TI TO ds) (M : HMid s0 z TI TO T ds sq i items k h) (hd : ds[k]? = some d) (hx : (sq k)[i]? = some x)
    (h1 : DrAt h' d (i + 1)) (s1 : Heap.SameBut d.it h h') : HMid s0 z TI TO T ds sq i (items.push x) (k + 1) h' := by
  have hmem : d ∈ ds := List.mem_of_getElem? hd
  obtain ⟨a1, a2, a3⟩ := D.itz d hmem
  have hk : k < ds.length := (List.getElem?_eq_some_iff.mp hd).1
  have up : ∀ c o, c ≠ d.it → h.get? c = some o → h'.get? c = some o := fun c o c1 e => s1.extBut _ _ c1 e
  refine ⟨up _ _ a1.symm M.zz, up _ _ a2.symm M.ti, fun j e he => ?_, fun j e he => ?_, by rw [s1.1, M.sz], fun c o c1 c3 e => up c o (c3 d hmem) (M.keep c o c1 c3 e), by simp [M.al], fun j hj => ?_⟩
  · by_cases hjk : j = k
    · subst hjk
      rw [hd] at he; cases he
      rw [if_pos (by omega)]
      exact h1
    · have hne : e.it ≠ d.it := fun q => by
        have hj : j < ds.length := (List.getElem?_eq_some_iff.mp he).1
        have e1 : (ds.map (·.it))[j]? = some e.it := by rw [List.getElem?_map, he]; rfl
        have e2 : (ds.map (·.it))[k]? = some e.it := by rw [List.getElem?_map, hd, q]; rfl
        exact hjk ((List.getElem?_inj (by simpa using hj) D.nd).mp (e1.trans e2.symm))
      have := M.at_ j e he
      have ee : (if j < k + 1 then i + 1 else i) = if j < k then i + 1 else i := by
        by_cases q : j < k
        · rw [if_pos q, if_pos (by omega)]
        · rw [if_neg q, if_neg (by omega)]
      rw [ee]
      exact this.at fun o q => up _ o hne q
  · obtain ⟨l1, l2, l3⟩ := D.lz e (List.mem_of_getElem? he)
    exact (M.sq_ j e he).at fun o q => up _ o (l3 d hmem) q
  · by_cases hjk : j = k
    · subst hjk
      rw [hx, ← M.al, Array.getElem?_push_size]
    · rw [Array.getElem?_push_lt (by rw [M.al]; omega)]
      have := M.done j (by omega)
      rw [← this, Array.getElem?_eq_getElem (by rw [M.al]; omega)]
theorem refs_dropA {ds : List Dr} {k : Nat} {it : Value} {rest : List Value} (h : it :: rest = (ds.map fun d => Value.ref d.it).drop k) : ∃ d, ds[k]? = some d ∧ it = .ref d.it ∧ rest = (ds.map fun d => Value.ref d.it).drop (k + 1) := by
  by_cases hk : k < ds.length
  · have e : (ds.map fun d => Value.ref d.it).drop k = Value.ref (ds[k]).it :: (ds.map fun d => Value.ref d.it).drop (k + 1) := by
      rw [List.drop_eq_getElem_cons (by simpa using hk)]; simp
    rw [e] at h
    injection h with h1 h2
    exact ⟨_, List.getElem?_eq_getElem hk, h1, h2⟩
  · rw [List.drop_eq_nil_of_le (by simp; omega)] at h
    cases h
theorem refs_nilA {ds : List Dr} {k : Nat} (h : [] = (ds.map fun d => Value.ref d.it).drop k) : ds.length ≤ k := by
  have := congrArg List.length h
  simp at this
  omega
theorem zip_next_held {b : Bool} {oT : PySem.Obj} {z TI TO T : Addr} {ds : List Dr} {sq : Nat → Array Value} {i : Nat} {Q : Value → Shared → Prop} (D : ZApart z TI TO ds) (hne : ds ≠ [])
    (hz : IsZipG s.heap z TI TO (rawInt T) b) (hT : s.heap.get? T = some oT) (hTI : IsTupN s.heap TI (ds.map fun d => Value.ref d.it).toArray)
    (hat : ∀ (j : Nat) (d : Dr), ds[j]? = some d → DrAt s.heap d i) (hsq : ∀ (j : Nat) (d : Dr), ds[j]? = some d → DrSq s.heap d (sq j)) (hn : ds.length ≤ 100)
    (hx : ∀ j, j < ds.length → (sq j)[i]?.isSome = true)
    (hQ : ∀ h' arr', IsZipG h' z TI TO (rawInt T) true → IsTupN h' TI (ds.map fun d => Value.ref d.it).toArray → arr'.size = ds.length → (∀ (j : Nat) (d : Dr), ds[j]? = some d → DrAt h' d (i + 1)) →
      IsTupN h' s.heap.objs.size arr' → (∀ j, j < ds.length → arr'[j]? = (sq j)[i]?) → h'.objs.size = s.heap.objs.size + 1 →
      (∀ c o, c ≠ z → (∀ d ∈ ds, c ≠ d.it) → s.heap.get? c = some o → h'.get? c = some o) → Q (.ref s.heap.objs.size) { s with heap := h' }) :
    wpAny (model prog w) A (Builtin.«zip.__next__» ⟨[.ref z], []⟩) (fun fin s' => ∃ v, fin = .done (.ret v) ∧ Q v s') E s := by
  show wpAny _ _ (field (.ref z) 2 >>= _) _ _ _
  refine wpAny_bind (wpAny_field hz rfl (x := .bool false) rfl ?_)
  show wpAny _ _ (field (.ref z) 3 >>= _) _ _ _
  refine wpAny_bind (wpAny_field hz rfl (x := .ref TI) rfl ?_)
  refine wpAny_bind (wpAny_seqItems hTI rfl ?_)
  have hemp : (ds.map fun d => Value.ref d.it).toArray.isEmpty = false := by
    cases ds with
    | nil => exact absurd rfl hne
    | cons d r => rfl
  show wpAny _ _ (if (List.map (fun d => Value.ref d.it) ds).toArray.isEmpty = true then _ else _) _ _ _
  rw [if_neg (by rw [hemp]; decide)]
  show wpAny _ _ (Builtin.SmallTypes.ownedTupleIsFree (.ref z) >>= _) _ _ _
  refine wpAny_bind (free_held hz hT fun h₁ hz₁ hs₁ => ?_)
  simp only [Bool.false_eq_true, if_false]
  have M0 : HMid s z TI TO T ds sq i #[] 0 h₁ := ⟨hz₁, hs₁.extBut _ _ D.TIz hTI, fun j d hd => by
      rw [if_neg (by omega)]; exact (hat j d hd).at fun o q => hs₁.extBut _ _ (D.itz d (List.mem_of_getElem? hd)).1 q,
    fun j d hd => (hsq j d hd).at fun o q => hs₁.extBut _ _ (D.lz d (List.mem_of_getElem? hd)).1 q, hs₁.1, fun c o c1 _ e => hs₁.extBut _ _ c1 e, rfl, fun j hj => absurd hj (Nat.not_lt_zero _)⟩
  refine wpAny_bind ?_
  rw [← Array.forIn_toList]
  refine wpAny_forIn_list _ (fun rest c s' => c.1 = none ∧ ∃ k, k ≤ ds.length ∧ rest = (ds.map fun d => Value.ref d.it).drop k ∧ s' = { s with heap := s'.heap } ∧ HMid s z TI TO T ds sq i c.2 k s'.heap) _ ?_ ?_ _ _ ⟨rfl, 0, Nat.zero_le _, rfl, rfl, M0⟩
  · rintro it rest ⟨c1, items⟩ s' ⟨hc1, k, hkl, hr, hs', M⟩
    dsimp only at hc1 M
    subst hc1
    obtain ⟨d, hd, rfl, rfl⟩ := refs_dropA hr
    have hk : k < ds.length := (List.getElem?_eq_some_iff.mp hd).1
    obtain ⟨x, hx'⟩ := Option.isSome_iff_exists.mp (hx k hk)
    have hdit := M.at_ k d hd
    rw [if_neg (by omega)] at hdit
    refine wpAny_bind (wpAny_holding ?_)
    show wpAny _ _ (Builtin.SmallTypes.nextOf (.ref d.it) >>= _) _ _ _
    refine wpAny_bind (dr_item hdit (M.sq_ k d hd) hx' fun h₂ h1₂ hs₂ => wpAny_pure ?_)
    exact wpAny_pure ⟨rfl, k + 1, hk, rfl, by rw [hs'], M.step D hd hx' h1₂ hs₂⟩
  · rintro ⟨c1, items⟩ s' ⟨hc1, k, hkl, hr, hs', M⟩
    dsimp only at hc1 M
    subst hc1
    have hk := refs_nilA hr
    have hkn : k = ds.length := Nat.le_antisymm hkl hk
    subst hkn
    refine wpAny_bind (wpAny_newTuple ?_ (by rw [Array.length_toList, M.al, sizeLine_eq]; omega))
    refine wpAny_pure ⟨_, rfl, ?_⟩
    have hT₈ : IsTupN (s'.heap.push { cls := .type "tuple", data := .seq items }) s'.heap.objs.size items := Heap.get?_push_size _ rfl
    have hz8 : (s'.heap.push { cls := .type "tuple", data := .seq items }).objs.size = s'.heap.objs.size + 1 := Heap.size_push ..
    have up : ∀ c o, s'.heap.get? c = some o → (s'.heap.push { cls := .type "tuple", data := .seq items }).get? c = some o := fun c o e => Heap.get?_push_of_some _ e
    rw [Array.toArray_toList]
    generalize hh : s'.heap.push { cls := .type "tuple", data := .seq items } = h8 at hT₈ hz8 up
    have e8 : { s' with heap := h8 } = { s with heap := h8 } := by rw [hs']
    rw [e8]
    rw [M.sz] at hT₈ hz8 ⊢
    refine hQ h8 items (up _ _ M.zz) (up _ _ M.ti) M.al (fun j d hd => ?_) hT₈ M.done hz8 fun c o c1 c3 e => up c o (M.keep c o c1 c3 e)
    have := M.at_ j d hd
    have hj : j < ds.length := (List.getElem?_eq_some_iff.mp hd).1
    rw [if_pos hj] at this
    exact this.at fun o q => up _ o q
theorem zip_end_held {b : Bool} {oT : PySem.Obj} {z TI TO T : Addr} {ds : List Dr} {sq : Nat → Array Value} {i : Nat} {Q : Fin → Shared → Prop} (hh : A.handled = none) (D : ZApart z TI TO ds) (hne : ds ≠ [])
    (hz : IsZipG s.heap z TI TO (rawInt T) b) (hT : s.heap.get? T = some oT) (hTI : IsTupN s.heap TI (ds.map fun d => Value.ref d.it).toArray)
    (hat : ∀ (j : Nat) (d : Dr), ds[j]? = some d → DrAt s.heap d i) (hsq : ∀ (j : Nat) (d : Dr), ds[j]? = some d → DrSq s.heap d (sq j)) (hn : ds.length ≤ 100)
    (hx : ∃ j, j < ds.length ∧ (sq j)[i]? = none)
    (hE : ∀ h' e, (∀ c o, c ≠ z → (∀ d ∈ ds, c ≠ d.it) → s.heap.get? c = some o → h'.get? c = some o) → (∃ o, h'.get? e = some o ∧ o.cls = .type "StopIteration") → E (.ref e) { s with heap := h' }) :
    wpAny (model prog w) A (Builtin.«zip.__next__» ⟨[.ref z], []⟩) Q E s := by
  show wpAny _ _ (field (.ref z) 2 >>= _) _ _ _
  refine wpAny_bind (wpAny_field hz rfl (x := .bool false) rfl ?_)
  show wpAny _ _ (field (.ref z) 3 >>= _) _ _ _
  refine wpAny_bind (wpAny_field hz rfl (x := .ref TI) rfl ?_)
  refine wpAny_bind (wpAny_seqItems hTI rfl ?_)
  have hemp : (ds.map fun d => Value.ref d.it).toArray.isEmpty = false := by
    cases ds with
    | nil => exact absurd rfl hne
    | cons d r => rfl
  show wpAny _ _ (if (List.map (fun d => Value.ref d.it) ds).toArray.isEmpty = true then _ else _) _ _ _
  rw [if_neg (by rw [hemp]; decide)]
  show wpAny _ _ (Builtin.SmallTypes.ownedTupleIsFree (.ref z) >>= _) _ _ _
  refine wpAny_bind (free_held hz hT fun h₁ hz₁ hs₁ => ?_)
  simp only [Bool.false_eq_true, if_false]
  have M0 : HMid s z TI TO T ds sq i #[] 0 h₁ := ⟨hz₁, hs₁.extBut _ _ D.TIz hTI, fun j d hd => by
      rw [if_neg (by omega)]; exact (hat j d hd).at fun o q => hs₁.extBut _ _ (D.itz d (List.mem_of_getElem? hd)).1 q,
    fun j d hd => (hsq j d hd).at fun o q => hs₁.extBut _ _ (D.lz d (List.mem_of_getElem? hd)).1 q, hs₁.1, fun c o c1 _ e => hs₁.extBut _ _ c1 e, rfl, fun j hj => absurd hj (Nat.not_lt_zero _)⟩
  obtain ⟨j0, hj0, hx0⟩ := hx
  refine wpAny_bind ?_
  rw [← Array.forIn_toList]
  refine wpAny_forIn_list _ (fun rest c s' => c.1 = none ∧ ∃ k, k ≤ j0 ∧ rest = (ds.map fun d => Value.ref d.it).drop k ∧ s' = { s with heap := s'.heap } ∧ HMid s z TI TO T ds sq i c.2 k s'.heap) _ ?_ ?_ _ _ ⟨rfl, 0, Nat.zero_le _, rfl, rfl, M0⟩
  · rintro it rest ⟨c1, items⟩ s' ⟨hc1, k, hkj, hr, hs', M⟩
    dsimp only at hc1 M
    subst hc1
    obtain ⟨d, hd, rfl, rfl⟩ := refs_dropA hr
    have hk : k < ds.length := (List.getElem?_eq_some_iff.mp hd).1
    have hdit := M.at_ k d hd
    rw [if_neg (by omega)] at hdit
    have hmem := List.mem_of_getElem? hd
    refine wpAny_bind (wpAny_holding ?_)
    show wpAny _ _ (Builtin.SmallTypes.nextOf (.ref d.it) >>= _) _ _ _
    cases hx' : (sq k)[i]? with
    | some x =>
      have hne' : k ≠ j0 := fun q => by subst q; rw [hx0] at hx'; cases hx'
      refine wpAny_bind (dr_item hdit (M.sq_ k d hd) hx' fun h₂ h1₂ hs₂ => wpAny_pure ?_)
      exact wpAny_pure ⟨rfl, k + 1, by omega, rfl, by rw [hs'], M.step D hd hx' h1₂ hs₂⟩
    | none =>
      refine wpAny_bind (dr_end hh hdit (M.sq_ k d hd) hx' fun h₂ e hs₂ he => ?_)
      rw [hs']
      exact hE h₂ e (fun c o c1 c3 x => hs₂ _ _ (c3 d hmem) (M.keep c o c1 c3 x)) he
  · rintro ⟨c1, items⟩ s' ⟨hc1, k, hkj, hr, hs', M⟩
    have hk := refs_nilA hr
    omega
/-- a zip at any time: nothing handed out, or a tuple that stands, or one that is gone -/
def ZipSt (h : Heap) (z TI TO : Addr) : Prop := ∃ b, IsZipG h z TI TO .none b ∨ ∃ T : Addr, IsZipG h z TI TO (rawInt T) b
theorem ZipSt.typ {z TI TO : Addr} (h : ZipSt s.heap z TI TO) : s.TypeIs (.ref z) "zip" := by
  obtain ⟨b, h | ⟨T, h⟩⟩ := h
  · exact ⟨_, h, rfl⟩
  · exact ⟨_, h, rfl⟩
theorem pyNext_zipF {z TI TO : Addr} {ds : List Dr} {sq : Nat → Array Value} {i : Nat} {arr : Array Value} {Q : Option Value → Shared → Prop} (D : ZApart z TI TO ds) (hne : ds ≠ [])
    (hz : ZipSt s.heap z TI TO) (hTI : IsTupN s.heap TI (ds.map fun d => Value.ref d.it).toArray) (hTO : IsTupN s.heap TO arr) (hal : arr.size = ds.length)
    (hat : ∀ (j : Nat) (d : Dr), ds[j]? = some d → DrAt s.heap d i) (hsq : ∀ (j : Nat) (d : Dr), ds[j]? = some d → DrSq s.heap d (sq j)) (hn : ds.length ≤ 100)
    (hx : ∀ j, j < ds.length → (sq j)[i]?.isSome = true)
    (hQ : ∀ h' arr', ZipSt h' z TI TO → IsTupN h' TI (ds.map fun d => Value.ref d.it).toArray → (∃ a, a.size = ds.length ∧ IsTupN h' TO a) → arr'.size = ds.length → (∀ (j : Nat) (d : Dr), ds[j]? = some d → DrAt h' d (i + 1)) →
      IsTupN h' s.heap.objs.size arr' → (∀ j, j < ds.length → arr'[j]? = (sq j)[i]?) → h'.objs.size = s.heap.objs.size + 1 →
      (∀ c o, c ≠ z → c ≠ TO → (∀ d ∈ ds, c ≠ d.it) → s.heap.get? c = some o → h'.get? c = some o) → Q (some (.ref s.heap.objs.size)) { s with heap := h' }) :
    wpAny (model prog w) A (pyNext (.ref z)) Q E s := by
  have hty := hz.typ
  unfold pyNext
  refine wpAny_bind (wpAny_attempt (wpAny_callSpecial?_slot (name := Str.ofString "__next__") hty F.slot_zip_next
    (wpAny_call_entry F.slot_zip_next hty F.entry_zip_next ?_ (F.args_zip_next_1 _))))
  obtain ⟨b, hz | ⟨T, hz⟩⟩ := hz
  · exact zip_next D hne (fun Q h => free_none hz h) hz hTI hTO hal hat hsq hn hx fun h' arr' a1 a2 a3 a4 a5 a6 a7 a8 a9 => wpAny_pure (hQ h' arr' ⟨_, .inr ⟨_, a1⟩⟩ a2 ⟨_, a4, a3⟩ a4 a5 a6 a7 a8 a9)
  · cases hT : s.heap.get? T with
    | none => exact zip_next D hne (fun Q h => free_dead hz hT h) hz hTI hTO hal hat hsq hn hx fun h' arr' a1 a2 a3 a4 a5 a6 a7 a8 a9 => wpAny_pure (hQ h' arr' ⟨_, .inr ⟨_, a1⟩⟩ a2 ⟨_, a4, a3⟩ a4 a5 a6 a7 a8 a9)
    | some oT => exact zip_next_held D hne hz hT hTI hat hsq hn hx fun h' arr' a1 a2 a4 a5 a6 a7 a8 a9 => wpAny_pure (hQ h' arr' ⟨_, .inr ⟨_, a1⟩⟩ a2 ⟨arr, hal, a9 _ _ D.TOz (fun d hd q => (D.itz d hd).2.2 q.symm) hTO⟩ a4 a5 a6 a7 a8 fun c o c1 _ c3 e => a9 c o c1 c3 e)
theorem pyNext_zip_endF {z TI TO : Addr} {ds : List Dr} {sq : Nat → Array Value} {i : Nat} {arr : Array Value} {Q : Option Value → Shared → Prop} (hh : A.handled = none) (D : ZApart z TI TO ds) (hne : ds ≠ [])
    (hz : ZipSt s.heap z TI TO) (hTI : IsTupN s.heap TI (ds.map fun d => Value.ref d.it).toArray) (hTO : IsTupN s.heap TO arr) (hal : arr.size = ds.length)
    (hat : ∀ (j : Nat) (d : Dr), ds[j]? = some d → DrAt s.heap d i) (hsq : ∀ (j : Nat) (d : Dr), ds[j]? = some d → DrSq s.heap d (sq j)) (hn : ds.length ≤ 100)
    (hx : ∃ j, j < ds.length ∧ (sq j)[i]? = none)
    (hQ : ∀ h', (∀ c o, c ≠ z → c ≠ TO → (∀ d ∈ ds, c ≠ d.it) → s.heap.get? c = some o → h'.get? c = some o) → Q none { s with heap := h' }) :
    wpAny (model prog w) A (pyNext (.ref z)) Q E s := by
  have hty := hz.typ
  unfold pyNext
  refine wpAny_bind (wpAny_attempt (wpAny_callSpecial?_slot (name := Str.ofString "__next__") hty F.slot_zip_next
    (wpAny_call_entry F.slot_zip_next hty F.entry_zip_next ?_ (F.args_zip_next_1 _))))
  obtain ⟨b, hz | ⟨T, hz⟩⟩ := hz
  · refine zip_end hh D hne (fun Q h => free_none hz h) hz hTI hTO hal hat hsq hn hx fun h' e hk he => ?_
    obtain ⟨o, ho, hc⟩ := he
    refine wpAny_bind (wpAny_isInstance (T := "StopIteration") (b := true) ⟨o, ho, hc⟩ isSubtype_stop ?_)
    exact wpAny_pure (hQ _ hk)
  · cases hT : s.heap.get? T with
    | none =>
      refine zip_end hh D hne (fun Q h => free_dead hz hT h) hz hTI hTO hal hat hsq hn hx fun h' e hk he => ?_
      obtain ⟨o, ho, hc⟩ := he
      refine wpAny_bind (wpAny_isInstance (T := "StopIteration") (b := true) ⟨o, ho, hc⟩ isSubtype_stop ?_)
      exact wpAny_pure (hQ _ hk)
    | some oT =>
      refine zip_end_held hh D hne hz hT hTI hat hsq hn hx fun h' e hk he => ?_
      obtain ⟨o, ho, hc⟩ := he
      refine wpAny_bind (wpAny_isInstance (T := "StopIteration") (b := true) ⟨o, ho, hc⟩ isSubtype_stop ?_)
      exact wpAny_pure (hQ _ fun c o c1 _ c3 e => hk c o c1 c3 e)
end
theorem ZipSt.obj {h : Heap} {z TI TO : Addr} (x : ZipSt h z TI TO) : ∃ o, h.get? z = some o ∧ ∀ v, o.data ≠ .cell v := by
  obtain ⟨b, x | ⟨T, x⟩⟩ := x
  · exact ⟨_, x, fun v q => nomatch q⟩
  · exact ⟨_, x, fun v q => nomatch q⟩
theorem ZipSt.keep {h h' : Heap} {z TI TO : Addr} (x : ZipSt h z TI TO) (k : ∀ o, h.get? z = some o → h'.get? z = some o) : ZipSt h' z TI TO := by
  obtain ⟨b, x | ⟨T, x⟩⟩ := x
  · exact ⟨b, .inl (k _ x)⟩
  · exact ⟨b, .inr ⟨T, k _ x⟩⟩
theorem iter_zipG {M : Program} {w : World} {A : Around} {E : Value → Shared → Prop} {s : Shared} {z TI TO : Addr} {f0 : Value} {b : Bool} {Q : Value → Shared → Prop} (hz : IsZipG s.heap z TI TO f0 b) (h : Q (.ref z) s) : wpAny (model M w) A (pyIter (.ref z)) Q E s := by
  have hT : s.TypeIs (.ref z) "zip" := ⟨_, hz, rfl⟩
  refine wpAny_pyIter_slot hT F.slot_zip_iter (wpAny_call_entry F.slot_zip_iter hT F.entry_zip_iter ?_ (F.args_zip_iter_1 _))
  show wpAny _ _ (ret (.ref z)) _ _ s
  exact wpAny_pure ⟨_, rfl, "zip", _, hT, F.slot_zip_next.lookup, h⟩
/-- zip of the sequences ss, the tuples known as they stand -/
def ItzF (K : PySem.W.Frag) (ss : List (Addr × Bool)) : It :=
  ⟨fun i H => ∃ f : Nat → List V, ∀ (j : Nat) (p : Addr × Bool), ss[j]? = some p → SqA K H p.1 p.2 (f j) ∧ i < (f j).length,
   fun i H v H' => ∃ T vs arr, v = .ref T ∧ H T = none ∧ H' = upd H T (.frz { cls := .type "tuple", data := .seq arr } (.tup vs)) ∧ vs.length = ss.length ∧ ∀ (j : Nat) (p : Addr × Bool) (xs : List V), ss[j]? = some p → SqA K H p.1 p.2 xs → vs[j]? = xs[i]?,
   fun i H => ∃ f : Nat → List V, (∀ (j : Nat) (p : Addr × Bool), ss[j]? = some p → SqA K H p.1 p.2 (f j)) ∧ ∃ j, j < ss.length ∧ (f j).length ≤ i⟩
theorem turn_zipF {P : Program} {w : World} {K : PySem.W.Frag} {nm : Str} {tpos : Pos} {z TI TO : Addr} {ds : List Dr} (D : ZApart z TI TO ds) (hne : ds ≠ []) (hn : ds.length ≤ 100) :
    Turn P w K (.Name nm tpos) (ItzF K (dss ds)) (z :: TI :: TO :: ds.map (·.it)) z
      (fun i h => ZipSt h z TI TO ∧ IsTupN h TI (ds.map fun d => Value.ref d.it).toArray ∧ (∃ arr, arr.size = ds.length ∧ IsTupN h TO arr) ∧ ∀ (j : Nat) (d : Dr), ds[j]? = some d → DrAt h d i) where
  mem := by simp
  obj := fun i h st c hc => by
    obtain ⟨hz, hTI, ⟨arr, _, hTO⟩, hat⟩ := st
    rcases List.mem_cons.mp hc with q | hc
    · rw [q]; exact hz.obj
    rcases List.mem_cons.mp hc with q | hc
    · rw [q]; exact ⟨_, hTI, fun v q => nomatch q⟩
    rcases List.mem_cons.mp hc with q | hc
    · rw [q]; exact ⟨_, hTO, fun v q => nomatch q⟩
    obtain ⟨d, hd, rfl⟩ := List.mem_map.mp hc
    obtain ⟨j, hj⟩ := List.getElem?_of_mem hd
    exact (hat j d hj).lt
  keep := fun i h h' st k => by
    obtain ⟨hz, hTI, ⟨arr, ha, hTO⟩, hat⟩ := st
    refine ⟨hz.keep (k z (by simp)), k TI (by simp) _ hTI, ⟨arr, ha, k TO (by simp) _ hTO⟩, fun j d hd => (hat j d hd).at fun o q => k d.it ?_ o q⟩
    exact List.mem_cons_of_mem _ (List.mem_cons_of_mem _ (List.mem_cons_of_mem _ (List.mem_map.mpr ⟨d, List.mem_of_getElem? hd, rfl⟩)))
  item := by
    intro X hP hw hK hc i pins s σ H E I hf st hg
    subst hP hw hK
    obtain ⟨hz, hTI, ⟨arr, ha, hTO⟩, hat⟩ := st
    obtain ⟨f, hf'⟩ := hg
    have ex : ∀ j, ∃ its : List Value, ∀ d, ds[j]? = some d → Vals (f j) its ∧ DrSq s.heap d its.toArray := fun j => by
      cases hd : ds[j]? with
      | none => exact ⟨[], fun d e => by cases e⟩
      | some d =>
        obtain ⟨its, r, p⟩ := inv_sq I (hf' j _ (dss_at hd)).1
        exact ⟨its, fun d' e => by cases e; exact ⟨r, p⟩⟩
    obtain ⟨g, hgj⟩ := Classical.axiomOfChoice ex
    have hzl : z < s.heap.objs.size := by obtain ⟨o, ho, _⟩ := hz.obj; exact Heap.lt_size ho
    refine pyNext_zipF (sq := fun j => (g j).toArray) D hne hz hTI hTO ha hat (fun j d hd => (hgj j d hd).2) hn (fun j hj => ?_) fun h' arr' z' TI' TO' ha' hat' hT hxs hsz hk => ?_
    · have hd := List.getElem?_eq_getElem hj
      have h1 := (hgj j _ hd).1.length
      have h2 := (hf' j _ (dss_at hd)).2
      simp only [List.getElem?_toArray]
      rw [List.getElem?_eq_getElem (by omega)]; rfl
    · refine ⟨_, rfl, ?_⟩
      show wpAny _ _ (pure ()) _ _ _
      refine wpAny_pure ?_
      have exv : ∃ vs : List V, vs.length = ds.length ∧ Vals vs arr'.toList ∧ ∀ (j : Nat), j < ds.length → vs[j]? = (f j)[i]? := by
        have hv : ∀ j, j < ds.length → ∃ x, (f j)[i]? = some x := fun j hj => by
          have hd := List.getElem?_eq_getElem hj
          exact ⟨_, List.getElem?_eq_getElem (hf' j _ (dss_at hd)).2⟩
        refine ⟨(List.range ds.length).map fun j => ((f j)[i]?).getD .non, by simp, ?_, fun j hj => ?_⟩
        · have main : ∀ (n : Nat), n ≤ ds.length → Vals ((List.range n).map fun j => ((f j)[i]?).getD .non) (arr'.toList.take n) := by
            intro n
            induction n with
            | zero => intro _; exact .nil
            | succ n ih =>
              intro hn'
              have hd := List.getElem?_eq_getElem (show n < ds.length by omega)
              obtain ⟨x, hx⟩ := hv n (by omega)
              obtain ⟨u, hu, ru⟩ := (hgj n _ hd).1.get hx
              have e1 : arr'.toList[n]? = some u := by
                rw [Array.getElem?_toList, hxs n (by omega)]
                simpa using hu
              rw [List.range_succ, List.map_append, List.take_succ, e1]
              refine (ih (by omega)).append ?_
              rw [List.map_singleton, hx]
              exact .cons ru .nil
          have := main ds.length (Nat.le_refl _)
          rwa [List.take_of_length_le (by simp [ha'])] at this
        · rw [List.getElem?_map, List.getElem?_range hj]
          obtain ⟨x, hx⟩ := hv j hj
          simp [hx]
      obtain ⟨vs, hvl, hvv, hvi⟩ := exv
      have new : ObjOk X.prog X.w (upd H s.heap.objs.size (.frz { cls := .type "tuple", data := .seq arr' } (.tup vs))) h' s.heap.objs.size (.frz { cls := .type "tuple", data := .seq arr' } (.tup vs)) :=
        ⟨hT, by rw [hvl, sizeLine_eq]; omega, arr'.toList, hvv, ⟨_, hT, rfl, 0, by simp⟩⟩
      have I1 : Inv X pins σ (upd H s.heap.objs.size (.frz { cls := .type "tuple", data := .seq arr' } (.tup vs))) { s with heap := h' } :=
        I.turnedNew (t' := s.toks) (ch := z :: TI :: TO :: ds.map (·.it)) (fun c o hb q => (hk c o (fun q' => hb (by simp [q'])) (fun q' => hb (by simp [q'])) (fun d hd q' => hb (by
          rw [q']; exact List.mem_cons_of_mem _ (List.mem_cons_of_mem _ (List.mem_cons_of_mem _ (List.mem_map.mpr ⟨d, hd, rfl⟩))))) q)) hf (Nat.le_refl _) new
      refine ⟨.ref s.heap.objs.size, _, I1, rfl, ⟨_, vs, arr', rfl, I.hok.fresh (Nat.le_refl _), rfl, by rw [hvl]; simp [dss], fun j p xs hp hxs' => ?_⟩, ⟨z', TI', TO', hat'⟩, fun c hcm => ?_⟩
      · have hj : j < ds.length := by
          have := (List.getElem?_eq_some_iff.mp hp).1
          simpa [dss] using this
        rw [inv_sq_inj I hxs' (hf' j p hp).1]
        exact hvi j hj
      · have hlt : c < s.heap.objs.size := by
          rcases List.mem_cons.mp hcm with q | hcm
          · rw [q]; exact hzl
          rcases List.mem_cons.mp hcm with q | hcm
          · rw [q]; exact Heap.lt_size hTI
          rcases List.mem_cons.mp hcm with q | hcm
          · rw [q]; exact Heap.lt_size hTO
          obtain ⟨d, hd, rfl⟩ := List.mem_map.mp hcm
          obtain ⟨j, hj⟩ := List.getElem?_of_mem hd
          obtain ⟨o, ho, _⟩ := (hat j d hj).lt
          exact Heap.lt_size ho
        rw [upd_ne (Nat.ne_of_lt hlt)]
        exact (hf c hcm).1
  done := by
    intro X hP hw hK hc i pins s σ H E I hf st hg
    subst hP hw hK
    obtain ⟨hz, hTI, ⟨arr, ha, hTO⟩, hat⟩ := st
    obtain ⟨f, hf', j0, hj0, hl0⟩ := hg
    have ex : ∀ j, ∃ its : List Value, ∀ d, ds[j]? = some d → Vals (f j) its ∧ DrSq s.heap d its.toArray := fun j => by
      cases hd : ds[j]? with
      | none => exact ⟨[], fun d e => by cases e⟩
      | some d =>
        obtain ⟨its, r, p⟩ := inv_sq I (hf' j _ (dss_at hd))
        exact ⟨its, fun d' e => by cases e; exact ⟨r, p⟩⟩
    obtain ⟨g, hgj⟩ := Classical.axiomOfChoice ex
    have hj0' : j0 < ds.length := by simpa [dss] using hj0
    refine pyNext_zip_endF (sq := fun j => (g j).toArray) (I.ok.hd hc) D hne hz hTI hTO ha hat (fun j d hd => (hgj j d hd).2) hn ⟨j0, hj0', ?_⟩ fun h' hk => ⟨rfl, I.turnedL (t' := s.toks) (ch := z :: TI :: TO :: ds.map (·.it)) (fun c o hb q =>
      hk c o (fun q' => hb (by simp [q'])) (fun q' => hb (by simp [q'])) (fun d hd q' => hb (by
        rw [q']; exact List.mem_cons_of_mem _ (List.mem_cons_of_mem _ (List.mem_cons_of_mem _ (List.mem_map.mpr ⟨d, hd, rfl⟩))))) q) hf⟩
    have h1 := (hgj j0 _ (List.getElem?_eq_getElem hj0')).1.length
    simp only [List.getElem?_toArray]
    exact List.getElem?_eq_none (by omega)
  self := fun A i s Q E st h => by
    obtain ⟨b, hz | ⟨T, hz⟩⟩ := st.1
    · exact iter_zipG hz h
    · exact iter_zipG hz h
/-- zip just made, one name -/
theorem pie_zipF {X : Cx} {pins : List (Addr × PySem.Obj)} {σ : L2.St} {H : Hp} {s : Shared} {nm : Str} {tpos : Pos} {R : It → Hp → Prop} {E : Value → Shared → Prop} {ds : List Dr} {h' : Heap} (I : Inv X pins σ H s) (hne : ds ≠ []) (hn : ds.length ≤ 100)
    (hl : ∀ d ∈ ds, d.l < s.heap.objs.size) (Z : ZNew s.heap.objs.size s.heap h' ds) (q : R (ItzF X.K (dss ds)) H) :
    wpAny (model X.prog X.w) X.A (pyIter (.ref (s.heap.objs.size + ds.length + 2))) (PIE X pins σ (.Name nm tpos) R) E { s with heap := h' } := by
  refine wpAny_pyIter_zip Z.zz ?_
  have I2 : Inv X pins σ H { s with heap := h' } := I.kept (t' := s.toks) Z.keep
  refine ⟨s.heap.objs.size + ds.length + 2, (s.heap.objs.size + ds.length + 2) :: (s.heap.objs.size + ds.length) :: (s.heap.objs.size + ds.length + 1) :: ds.map (·.it), _, _, H, rfl, I2, turn_zipF (zapart_new (fun j d hd => (Z.at_ j d hd).1) hl) hne hn,
    ⟨⟨false, .inl Z.zz⟩, Z.ti, ⟨_, by simp, Z.to⟩, fun j d hd => (Z.at_ j d hd).2⟩, fun c hcm => ?_, q⟩
  have hle : s.heap.objs.size ≤ c := by
    rcases List.mem_cons.mp hcm with z | hcm
    · rw [z]; exact Nat.le_trans (Nat.le_add_right _ _) (Nat.le_add_right _ _)
    rcases List.mem_cons.mp hcm with z | hcm
    · rw [z]; exact Nat.le_add_right _ _
    rcases List.mem_cons.mp hcm with z | hcm
    · rw [z]; exact Nat.le_trans (Nat.le_add_right _ _) (Nat.le_add_right _ _)
    obtain ⟨d, hd, rfl⟩ := List.mem_map.mp hcm
    obtain ⟨j, hj⟩ := List.getElem?_of_mem hd
    rw [(Z.at_ j d hj).1]; exact Nat.le_add_right _ _
  exact I.fpOk hle (I.hok.fresh hle)
/-- zip of the sequences that the arguments are -/
def iZipF (K : PySem.W.Frag) (ta : TA) : TI := fun σ H R => ta σ H fun vs H1 => ∃ ss : List (Addr × Bool), vs = ss.map (fun p => V.ref p.1) ∧ (∀ p ∈ ss, ∃ xs, SqA K H1 p.1 p.2 xs) ∧ R (ItzF K ss) H1
theorem pi_zip2F {X : Cx} {e e2 : Expr} {ta : TA} {p pos tpos : Pos} {nm : Str} (hg : Gl X "zip") (hm : X.mg "zip" = none) (ha : PA X [e, e2] ta)
    (hs : starEach [e, e2] X.env = (false, eval e X.env) :: starEach [e2] X.env) (hpl : (backTo pos (starEach [e2] X.env)).any (·.1) = false) (hlen : ∀ σ H Q, ta σ H Q → ta σ H fun vs H1 => vs.length = 2 ∧ Q vs H1) :
    PI X (.Name nm tpos) (.Call (.Name "zip" p) [e, e2] [] pos) (iZipF X.K ta) := by
  refine ⟨fun pins s σ H R I h => ?_⟩
  refine Call_ (ld_blt I hg hm PyProof.Rows.boot_zip (PyProof.Rows.callWith_type1 (thn (ha.run pos pins s σ H _ I (hlen _ _ _ h)) fun us s1 ⟨vs, H1, I1, r1, q1⟩ => ?_) hs hpl))
  obtain ⟨hln, ss, ex, hq, q⟩ := q1
  subst ex
  have e := vals_refs r1
  subst e
  match ss, hln, hq, q, r1 with
  | [(a, t1), (b, t2)], _, hq, q, r1 =>
    obtain ⟨xs, hx⟩ := hq (a, t1) (by simp)
    obtain ⟨ys, hy⟩ := hq (b, t2) (by simp)
    obtain ⟨its, rv, p'⟩ := inv_sq I1 hx
    obtain ⟨its2, rv2, p2⟩ := inv_sq I1 hy
    refine call_zip2 p' p2 fun h' Z => pie_zipF (ds := [⟨s1.heap.objs.size, a, t1⟩, ⟨s1.heap.objs.size + 1, b, t2⟩]) I1 (by simp) (by simp) (fun d hd => ?_) Z q
    have e' : d = ⟨s1.heap.objs.size, a, t1⟩ ∨ d = ⟨s1.heap.objs.size + 1, b, t2⟩ := by simpa using hd
    rcases e' with z | z
    · rw [z]; exact inv_sq_lt I1 hx
    · rw [z]; exact inv_sq_lt I1 hy
theorem pi_zip3F {X : Cx} {e e2 e3 : Expr} {ta : TA} {p pos tpos : Pos} {nm : Str} (hg : Gl X "zip") (hm : X.mg "zip" = none) (ha : PA X [e, e2, e3] ta)
    (hs : starEach [e, e2, e3] X.env = (false, eval e X.env) :: starEach [e2, e3] X.env) (hpl : (backTo pos (starEach [e2, e3] X.env)).any (·.1) = false) (hlen : ∀ σ H Q, ta σ H Q → ta σ H fun vs H1 => vs.length = 3 ∧ Q vs H1) :
    PI X (.Name nm tpos) (.Call (.Name "zip" p) [e, e2, e3] [] pos) (iZipF X.K ta) := by
  refine ⟨fun pins s σ H R I h => ?_⟩
  refine Call_ (ld_blt I hg hm PyProof.Rows.boot_zip (PyProof.Rows.callWith_type1 (thn (ha.run pos pins s σ H _ I (hlen _ _ _ h)) fun us s1 ⟨vs, H1, I1, r1, q1⟩ => ?_) hs hpl))
  obtain ⟨hln, ss, ex, hq, q⟩ := q1
  subst ex
  have e := vals_refs r1
  subst e
  match ss, hln, hq, q, r1 with
  | [(a, t1), (b, t2), (c, t3)], _, hq, q, r1 =>
    obtain ⟨xs, hx⟩ := hq (a, t1) (by simp)
    obtain ⟨ys, hy⟩ := hq (b, t2) (by simp)
    obtain ⟨zs, hz⟩ := hq (c, t3) (by simp)
    obtain ⟨its, rv, p'⟩ := inv_sq I1 hx
    obtain ⟨its2, rv2, p2⟩ := inv_sq I1 hy
    obtain ⟨its3, rv3, p3⟩ := inv_sq I1 hz
    refine call_zip3 p' p2 p3 fun h' Z => pie_zipF (ds := [⟨s1.heap.objs.size, a, t1⟩, ⟨s1.heap.objs.size + 1, b, t2⟩, ⟨s1.heap.objs.size + 2, c, t3⟩]) I1 (by simp) (by simp) (fun d hd => ?_) Z q
    have e' : d = ⟨s1.heap.objs.size, a, t1⟩ ∨ d = ⟨s1.heap.objs.size + 1, b, t2⟩ ∨ d = ⟨s1.heap.objs.size + 2, c, t3⟩ := by simpa using hd
    rcases e' with z | z | z
    · rw [z]; exact inv_sq_lt I1 hx
    · rw [z]; exact inv_sq_lt I1 hy
    · rw [z]; exact inv_sq_lt I1 hz
end Rf

/-! Rf4: the readings that the small language gives, and how they meet HandS's. -/
namespace Rf
open PySem PySem.Spec PyProof.Rows L2

def KA (K : PySem.W.Frag) (m : List Addr) (H : Hp) (vs : List Val) (S : Store) (Q : List V → Hp → Prop) : Prop := ∀ xs m' H', Ext m H m' H' → RS K m' S H' → RVs m' H' vs xs → Q xs H'
def rdE (K : PySem.W.Frag) (d : Env → Store → R Val) : TE := fun σ H Q => ∃ ρ m S v S', RE m H ρ σ ∧ RS K m S H ∧ d ρ S = some (v, S') ∧ K1 K m H v S' Q
def rdA (K : PySem.W.Frag) (d : Env → Store → R (List Val)) : TA := fun σ H Q => ∃ ρ m S v S', RE m H ρ σ ∧ RS K m S H ∧ d ρ S = some (v, S') ∧ KA K m H v S' Q
def rdT (K : PySem.W.Frag) (d : Env → Store → R Val) : TT := fun σ H Q => ∃ ρ m S c S', RE m H ρ σ ∧ RS K m S H ∧ d ρ S = some (.bl c, S') ∧ ∀ m' H', Ext m H m' H' → RS K m' S' H' → Q c H'
/-- what a target may change: the slots ws -/
def Chg (ws : List Nat) (σ σ' : L2.St) : Prop := σ'.length = σ.length ∧ ∀ i, i ∉ ws → σ'[i]? = σ[i]?
def rdG (K : PySem.W.Frag) (ws : List Nat) (d : Val → Env → Store → R Env) : TG := fun x σ H Q => ∃ ρ m S v ρ' S', RE m H ρ σ ∧ RS K m S H ∧ RV m H v x ∧ d v ρ S = some (ρ', S') ∧
  ∀ σ' m' H', Ext m H m' H' → RS K m' S' H' → RE m' H' ρ' σ' → Chg ws σ σ' → Q σ' H'
def rdGs (K : PySem.W.Frag) (ws : List Nat) (d : List Val → Env → Store → R Env) : TGs := fun xs σ H Q => ∃ ρ m S vs ρ' S', RE m H ρ σ ∧ RS K m S H ∧ RVs m H vs xs ∧ d vs ρ S = some (ρ', S') ∧
  ∀ σ' m' H', Ext m H m' H' → RS K m' S' H' → RE m' H' ρ' σ' → Chg ws σ σ' → Q σ' H'
/-- an iterator of HandS serves one of ours in every later world -/
def ItOk (K : PySem.W.Frag) (m : List Addr) (H : Hp) (it : It) (J : Itv) : Prop := ∀ i m2 H2 S2, Ext m H m2 H2 → RS K m2 S2 H2 →
  (itAt J i S2 = some none → it.stop i H2) ∧ ∀ v, itAt J i S2 = some (some v) → it.go i H2 ∧ ∀ x H3, it.yld i H2 x H3 → Ext m2 H2 m2 H3 ∧ RS K m2 S2 H3 ∧ RV m2 H3 v x
def rdI (K : PySem.W.Frag) (d : Env → Store → R Itv) : TI := fun σ H R => ∃ ρ m S J S', RE m H ρ σ ∧ RS K m S H ∧ d ρ S = some (J, S') ∧ ∀ it m' H', Ext m H m' H' → RS K m' S' H' → ItOk K m' H' it J → R it H'
/-- what is wanted behind a statement -/
def Fin3 (K : PySem.W.Frag) (m : List Addr) (H : Hp) (ρ : Env) (S : Store) (D : Ends) : Rf.Flow → Prop
  | .nx => ∀ σ' m' H', Ext m H m' H' → RS K m' S H' → RE m' H' ρ σ' → D.nx σ' H'
  | .bk => ∀ σ' m' H', Ext m H m' H' → RS K m' S H' → RE m' H' ρ σ' → D.bk σ' H'
  | .ret v => ∀ x m' H', Ext m H m' H' → RS K m' S H' → RV m' H' v x → D.rt x H'
def rdS (K : PySem.W.Frag) (d : Env → Store → R3) : TS := fun D σ H => ∃ ρ m S f ρ' S', RE m H ρ σ ∧ RS K m S H ∧ d ρ S = some (f, ρ', S') ∧ Fin3 K m H ρ' S' D f

section
variable {K : PySem.W.Frag} {m m1 m2 : List Addr} {H H1 H2 : Hp} {S S1 S2 S' : Store} {ρ ρ' : Env} {σ σ' : L2.St} {v : Val} {vs : List Val} {Q : VK}
theorem KA.mono {Q : List V → Hp → Prop} (e : Ext m H m1 H1) (k : KA K m H vs S Q) : KA K m1 H1 vs S Q := fun x m' H' e' s r => k x m' H' (e.trans e') s r
theorem step1 {d : Env → Store → R Val} (re : RE m H ρ σ) (s : RS K m S H) (h : d ρ S = some (v, S1)) (k : ∀ x m1 H1, Ext m H m1 H1 → RS K m1 S1 H1 → RV m1 H1 v x → RE m1 H1 ρ σ → Q x H1) : rdE K d σ H Q :=
  ⟨ρ, m, S, v, S1, re, s, h, fun x m1 H1 e s1 r => k x m1 H1 e s1 r (re.mono e)⟩
theorem stepA {d : Env → Store → R (List Val)} {Q : List V → Hp → Prop} (re : RE m H ρ σ) (s : RS K m S H) (h : d ρ S = some (vs, S1)) (k : ∀ x m1 H1, Ext m H m1 H1 → RS K m1 S1 H1 → RVs m1 H1 vs x → RE m1 H1 ρ σ → Q x H1) : rdA K d σ H Q :=
  ⟨ρ, m, S, vs, S1, re, s, h, fun x m1 H1 e s1 r => k x m1 H1 e s1 r (re.mono e)⟩
theorem stepT {d : Env → Store → R Val} {c : Bool} {Q : Bool → Hp → Prop} (re : RE m H ρ σ) (s : RS K m S H) (h : d ρ S = some (.bl c, S1)) (k : ∀ m1 H1, Ext m H m1 H1 → RS K m1 S1 H1 → RE m1 H1 ρ σ → Q c H1) : rdT K d σ H Q :=
  ⟨ρ, m, S, c, S1, re, s, h, fun m1 H1 e s1 => k m1 H1 e s1 (re.mono e)⟩
theorem Chg.refl (ws : List Nat) (σ : L2.St) : Chg ws σ σ := ⟨rfl, fun _ _ => rfl⟩
theorem Chg.trans {ws ws' : List Nat} {σ1 σ2 σ3 : L2.St} (a : Chg ws σ1 σ2) (b : Chg ws' σ2 σ3) : Chg (ws ++ ws') σ1 σ3 :=
  ⟨b.1.trans a.1, fun i hi => by rw [b.2 i fun q => hi (List.mem_append_right _ q), a.2 i fun q => hi (List.mem_append_left _ q)]⟩
theorem Chg.wipe {ws vs : List Nat} {σ σ' : L2.St} (c : Chg ws σ σ') (h : ∀ i ∈ ws, i ∈ vs) : wipe σ' vs = wipe σ vs := by
  have key : ∀ (τ : L2.St) (us : List Nat) (i : Nat), (L2.wipe τ us)[i]? = if i ∈ us ∧ i < τ.length then some none else τ[i]? := by
    intro τ us
    induction us with
    | nil => intro i; simp [L2.wipe]
    | cons u us ih =>
      intro i
      unfold L2.wipe
      rw [List.getElem?_set, ih, L2.wipe_length]
      by_cases e : u = i
      · subst e
        by_cases hl : u < τ.length
        · simp [hl]
        · simp [hl]
      · have e' : ¬ i = u := fun q => e q.symm
        simp [e, e']
  apply List.ext_getElem?
  intro i
  rw [key, key, c.1]
  by_cases hi : i ∈ vs
  · by_cases hl : i < σ.length
    · simp [hi, hl]
    · simp [hi, hl]
      rw [c.1]; omega
  · simp [hi]
    exact c.2 i fun q => hi (h i q)
end

section
variable {X : Cx} {e : Expr} {es : List Expr}
theorem peI {t t' : TE} (h : PE X e t) (k : ∀ σ H Q, t' σ H Q → t σ H Q) : PE X e t' := ⟨fun pins s σ H Q I q => h.run pins s σ H Q I (k σ H Q q)⟩
theorem ptI {t t' : TT} (h : PT X e t) (k : ∀ σ H Q, t' σ H Q → t σ H Q) : PT X e t' := ⟨fun pins s σ H Q I q => h.run pins s σ H Q I (k σ H Q q)⟩
theorem pwI {t t' : TT} (h : PW X e t) (k : ∀ σ H Q, t' σ H Q → t σ H Q) : PW X e t' := ⟨fun wh pins s σ H Q I q => h.run wh pins s σ H Q I (k σ H Q q)⟩
theorem paI {t t' : TA} (h : PA X es t) (k : ∀ σ H Q, t' σ H Q → t σ H Q) : PA X es t' := ⟨fun pos pins s σ H Q I q => h.run pos pins s σ H Q I (k σ H Q q)⟩
theorem pgI {t t' : TG} (h : PG X e t) (k : ∀ v σ H Q, t' v σ H Q → t v σ H Q) : PG X e t' := ⟨fun pins s σ H v u Q I r q => h.run pins s σ H v u Q I r (k v σ H Q q)⟩
theorem pgsI {t t' : TGs} (h : PGs X es t) (k : ∀ v σ H Q, t' v σ H Q → t v σ H Q) : PGs X es t' := ⟨fun pins s σ H v u Q I r q => h.run pins s σ H v u Q I r (k v σ H Q q)⟩
theorem piI {tg : Expr} {t t' : TI} (h : PI X tg e t) (k : ∀ σ H Q, t' σ H Q → t σ H Q) : PI X tg e t' := ⟨fun pins s σ H Q I q => h.run pins s σ H Q I (k σ H Q q)⟩
theorem psI {st : Stmt} {t t' : TS} (h : PS X st t) (k : ∀ D σ H, t' D σ H → t D σ H) : PS X st t' := ⟨fun pins s σ H D I q => h.run pins s σ H D I (k D σ H q)⟩
theorem pssI {st : List Stmt} {t t' : TS} (h : PSs X st t) (k : ∀ D σ H, t' D σ H → t D σ H) : PSs X st t' := ⟨fun pins s σ H D I q => h.run pins s σ H D I (k D σ H q)⟩
end

/-! ### expressions -/
section
variable {X : Cx} {a b c o : Expr} {es : List Expr} {pos apos p : Pos} {da db dc : Env → Store → R Val} {dA : Env → Store → R (List Val)}
theorem rd_tB {K : PySem.W.Frag} {σ : L2.St} {H : Hp} {Q : Bool → Hp → Prop} {d : Env → Store → R Val} (h : rdT K d σ H Q) : tB (rdE K d) σ H Q := by
  obtain ⟨ρ, m, S, c, S', re, s, h, k⟩ := h
  exact step1 re s h fun x m1 H1 e1 s1 r1 _ => by cases r1; exact ⟨c, rfl, k m1 H1 e1 s1⟩
theorem e_test (h : PE X a (rdE X.K da)) (he : ∀ whole, isTrue a X.env whole = (do let v ← whole; standAt a.pos; holding [v] (truthy v))) : PT X a (rdT X.K da) := ptI (pt_val h he) fun _ _ _ => rd_tB
theorem e_slot {i : Nat} {x : Str} (hN : X.N[i]? = some x) (hv : Vis X.env.scope x) (hd : (x == ("__debug__" : Str)) = false) (hcd : (x == ("__classdict__" : Str)) = false) :
    PE X (.Name x pos) (rdE X.K fun ρ S => match ρ[i]? with | some (some v) => some (v, S) | _ => none) := by
  refine peI (pe_var hN hv hd hcd) ?_
  rintro σ H Q ⟨ρ, m, S, v, S', re, s, h, k⟩
  dsimp only at h
  split at h
  · rename_i w e
    cases h
    obtain ⟨x, hx, rx⟩ := re.get i _ e
    exact ⟨x, hx, k.now s rx⟩
  · cases h
theorem e_const {t : V} {v : Val} (h : PE X a (tC t)) (r : ∀ m H, RV m H v t) : PE X a (rdE X.K fun _ S => some (v, S)) := by
  refine peI h ?_
  rintro σ H Q ⟨ρ, m, S, v', S', re, s, h, k⟩
  cases h
  exact k.now s (r m H)
theorem rd_op {K : PySem.W.Frag} {r : R2} {f : Val → Val → Store → R Val} (hr : ∀ x y H Q, rB K f x y H Q → r x y H Q) {σ : L2.St} {H : Hp} {Q : VK}
    (h : rdE K (fun ρ S => bnd (da ρ S) fun x S1 => bnd (db ρ S1) fun y S2 => f x y S2) σ H Q) : tOp r (rdE K da) (rdE K db) σ H Q := by
  obtain ⟨ρ, m, S, v, S', re, rs, h, k⟩ := h
  obtain ⟨a, S1, h1, h⟩ := bnd_eq_some h
  obtain ⟨b, S2, h2, h⟩ := bnd_eq_some h
  exact step1 re rs h1 fun x m1 H1 e1 s1 r1 re1 => step1 re1 s1 h2 fun y m2 H2 e2 s2 r2 re2 => hr _ _ _ _ ⟨m2, S2, a, b, v, S', s2, r1.mono e2, r2, h, k.mono (e1.trans e2)⟩
theorem e_bin (op : Bop) (ha : PE X a (rdE X.K da)) (hb : PE X b (rdE X.K db)) : PE X (.BinOp a (pyB op) b pos) (rdE X.K fun ρ S => bnd (da ρ S) fun x S1 => bnd (db ρ S1) fun y S2 => binV op x y S2) :=
  peI (pe_op (ok_bin op) ha hb) fun _ _ _ => rd_op fun _ _ _ _ h => h
theorem e_neg (ha : PE X a (rdE X.K da)) : PE X (.UnaryOp .USub a pos) (rdE X.K fun ρ S => bnd (da ρ S) fun x S1 => match x with | .int i => some (.int (-i), S1) | _ => none) := by
  refine peI (pe_un un_neg ha) ?_
  rintro σ H Q ⟨ρ, m, S, v, S', re, rs, h, k⟩
  obtain ⟨a, S1, h1, h⟩ := bnd_eq_some h
  refine step1 re rs h1 fun x m1 H1 e1 s1 r1 re1 => ?_
  split at h
  · rename_i i
    cases h
    cases r1
    exact ⟨i, rfl, (k.mono e1).now s1 (.int _)⟩
  · cases h
/-- a comparison's value -/
def cmpR (op : Cop) : Val → Val → Store → R Val := fun x y S => match cmpV op x y S with
  | some c => some (.bl c, S)
  | none => none
theorem ok_cmp2 (hu : X.A.units + 65 < cLine) (op : Cop) : OpR X (compareOp (pyC op)) (rB X.K (cmpR op)) := or2 (ok_cmp hu op) fun x y H Q h => by
  obtain ⟨m, S, a, b, v, S', s, ra, rb, h, k⟩ := h
  unfold cmpR at h
  split at h
  · rename_i c e
    cases h
    exact ⟨m, S, a, b, c, s, ra, rb, e, k.now s (.bl c)⟩
  · cases h
theorem e_cmp (hu : X.A.units + 65 < cLine) (op : Cop) (ha : PE X a (rdE X.K da)) (hb : PE X b (rdE X.K db)) (hm : behindInMarks (pyC op) b = false) :
    PE X (.Compare a [pyC op] [b] pos) (rdE X.K fun ρ S => bnd (da ρ S) fun x S1 => bnd (db ρ S1) fun y S2 => match cmpV op x y S2 with | some c => some (.bl c, S2) | none => none) :=
  peI (pe_cmpR (ok_cmp2 hu op) ha hb hm) fun _ _ _ => rd_op (f := cmpR op) fun _ _ _ _ h => h
theorem t_cmp (hu : X.A.units + 65 < cLine) (op : Cop) (ha : PE X a (rdE X.K da)) (hb : PE X b (rdE X.K db)) (hm : behindInMarks (pyC op) b = false) :
    PT X (.Compare a [pyC op] [b] pos) (rdT X.K fun ρ S => bnd (da ρ S) fun x S1 => bnd (db ρ S1) fun y S2 => match cmpV op x y S2 with | some c => some (.bl c, S2) | none => none) :=
  ptI (pt_cmpR (ok_cmp2 hu op) ha hb hm) fun _ _ _ h => rd_op (f := cmpR op) (fun _ _ _ _ h => h) (rd_tB h)
theorem rd_chain {K : PySem.W.Frag} {op op' : Cop} {σ : L2.St} {H : Hp} {Q : VK}
    (h : rdE K (fun ρ S => bnd (da ρ S) fun x S1 => bnd (db ρ S1) fun y S2 => match cmpV op x y S2 with
      | some true => bnd (dc ρ S2) fun z S3 => match cmpV op' y z S3 with
        | some c => some (.bl c, S3)
        | none => none
      | some false => some (.bl false, S2)
      | none => none) σ H Q) : tChain (rB K (cmpR op)) (rB K (cmpR op')) (rdE K da) (rdE K db) (rdE K dc) σ H Q := by
  obtain ⟨ρ, m, S, v, S', re, rs, h, k⟩ := h
  obtain ⟨a, S1, h1, h⟩ := bnd_eq_some h
  obtain ⟨b, S2, h2, h⟩ := bnd_eq_some h
  refine step1 re rs h1 fun x m1 H1 e1 s1 r1 re1 => step1 re1 s1 h2 fun y m2 H2 e2 s2 r2 re2 => ?_
  cases hc : cmpV op a b S2 with
  | none => rw [hc] at h; cases h
  | some t =>
    refine ⟨m2, S2, a, b, .bl t, S2, s2, r1.mono e2, r2, by unfold cmpR; rw [hc], ?_⟩
    intro z m3 H3 e3 s3 r3
    cases r3
    refine ⟨t, rfl, ?_⟩
    cases t with
    | false =>
      rw [hc] at h
      cases h
      rw [if_neg Bool.false_ne_true]
      exact (k.mono (e1.trans (e2.trans e3))).now s3 (.bl false)
    | true =>
      rw [hc] at h
      rw [if_pos rfl]
      obtain ⟨w, S3, h3, h⟩ := bnd_eq_some h
      refine step1 (re2.mono e3) s3 h3 fun w' m4 H4 e4 s4 r4 re4 => ?_
      exact ⟨m4, S3, b, w, v, S', s4, r2.mono (e3.trans e4), r4, h, k.mono (e1.trans (e2.trans (e3.trans e4)))⟩
theorem e_cmp2 (hu : X.A.units + 65 < cLine) (op op' : Cop) (ha : PE X a (rdE X.K da)) (hb : PE X b (rdE X.K db)) (hc : PE X c (rdE X.K dc)) (hm : lastMarks [pyC op, pyC op'] [b, c] = false) :
    PE X (.Compare a [pyC op, pyC op'] [b, c] pos) (rdE X.K fun ρ S => bnd (da ρ S) fun x S1 => bnd (db ρ S1) fun y S2 => match cmpV op x y S2 with
      | some true => bnd (dc ρ S2) fun z S3 => match cmpV op' y z S3 with
        | some c => some (.bl c, S3)
        | none => none
      | some false => some (.bl false, S2)
      | none => none) := peI (pe_chain (ok_cmp2 hu op) (ok_cmp2 hu op') ha hb hc hm) fun _ _ _ => rd_chain
theorem t_cmp2 (hu : X.A.units + 65 < cLine) (op op' : Cop) (ha : PE X a (rdE X.K da)) (hb : PE X b (rdE X.K db)) (hc : PE X c (rdE X.K dc)) (hm : lastMarks [pyC op, pyC op'] [b, c] = false) :
    PT X (.Compare a [pyC op, pyC op'] [b, c] pos) (rdT X.K fun ρ S => bnd (da ρ S) fun x S1 => bnd (db ρ S1) fun y S2 => match cmpV op x y S2 with
      | some true => bnd (dc ρ S2) fun z S3 => match cmpV op' y z S3 with
        | some c => some (.bl c, S3)
        | none => none
      | some false => some (.bl false, S2)
      | none => none) := ptI (pt_chain (ok_cmp2 hu op) (ok_cmp2 hu op') ha hb hc hm) fun _ _ _ h => rd_chain (rd_tB h)

/-! and, or, not -/
theorem rd_if {K : PySem.W.Frag} {σ : L2.St} {H : Hp} {Q : VK} {d1 d2 : Env → Store → R Val} (h : rdE K (fun ρ S => bnd (da ρ S) fun x S1 => match x with | .bl true => d1 ρ S1 | .bl false => d2 ρ S1 | _ => none) σ H Q) :
    rdT K da σ H fun c H1 => if c = true then rdE K d1 σ H1 Q else rdE K d2 σ H1 Q := by
  obtain ⟨ρ, m, S, v, S', re, rs, h, k⟩ := h
  obtain ⟨a, S1, h1, h⟩ := bnd_eq_some h
  match a, h1, h with
  | .bl true, h1, h => exact stepT re rs h1 fun m1 H1 e1 s1 re1 => ⟨ρ, m1, S1, v, S', re1, s1, h, k.mono e1⟩
  | .bl false, h1, h => exact stepT re rs h1 fun m1 H1 e1 s1 re1 => by rw [if_neg Bool.false_ne_true]; exact ⟨ρ, m1, S1, v, S', re1, s1, h, k.mono e1⟩
theorem rd_ifT {K : PySem.W.Frag} {σ : L2.St} {H : Hp} {Q : Bool → Hp → Prop} {d1 d2 : Env → Store → R Val} (h : rdT K (fun ρ S => bnd (da ρ S) fun x S1 => match x with | .bl true => d1 ρ S1 | .bl false => d2 ρ S1 | _ => none) σ H Q) :
    rdT K da σ H fun c H1 => if c = true then rdT K d1 σ H1 Q else rdT K d2 σ H1 Q := by
  obtain ⟨ρ, m, S, v, S', re, rs, h, k⟩ := h
  obtain ⟨a, S1, h1, h⟩ := bnd_eq_some h
  match a, h1, h with
  | .bl true, h1, h => exact stepT re rs h1 fun m1 H1 e1 s1 re1 => ⟨ρ, m1, S1, v, S', re1, s1, h, fun m' H' e' => k m' H' (e1.trans e')⟩
  | .bl false, h1, h => exact stepT re rs h1 fun m1 H1 e1 s1 re1 => by rw [if_neg Bool.false_ne_true]; exact ⟨ρ, m1, S1, v, S', re1, s1, h, fun m' H' e' => k m' H' (e1.trans e')⟩
theorem rdT_bl {K : PySem.W.Frag} {σ : L2.St} {H : Hp} {Q : Bool → Hp → Prop} {c : Bool} (h : rdT K (fun _ S => some (.bl c, S)) σ H Q) : Q c H := by
  obtain ⟨ρ, m, S, v, S', re, rs, h, k⟩ := h
  cases h
  exact k m H (.refl _ _) rs
theorem rdE_bl {K : PySem.W.Frag} {σ : L2.St} {H : Hp} {Q : VK} {c : Bool} (h : rdE K (fun _ S => some (.bl c, S)) σ H Q) : Q (.bl c) H := by
  obtain ⟨ρ, m, S, v, S', re, rs, h, k⟩ := h
  cases h
  exact k.now rs (.bl c)
theorem rdT_mono {K : PySem.W.Frag} {σ : L2.St} {H : Hp} {Q Q' : Bool → Hp → Prop} (h : rdT K da σ H Q) (k : ∀ c H', Q c H' → Q' c H') : rdT K da σ H Q' := by
  obtain ⟨ρ, m, S, v, S', re, rs, h, q⟩ := h
  exact ⟨ρ, m, S, v, S', re, rs, h, fun m' H' e s => k _ _ (q m' H' e s)⟩
variable {rest : List Expr}
def dAnd (da db : Env → Store → R Val) : Env → Store → R Val := fun ρ S => bnd (da ρ S) fun x S1 => match x with | .bl true => db ρ S1 | .bl false => some (.bl false, S1) | _ => none
def dOr (da db : Env → Store → R Val) : Env → Store → R Val := fun ρ S => bnd (da ρ S) fun x S1 => match x with | .bl true => some (.bl true, S1) | .bl false => db ρ S1 | _ => none
theorem e_and (ha : PE X a (rdE X.K da)) (hb : PE X (.BoolOp .And (b :: rest) pos) (rdE X.K db)) : PE X (.BoolOp .And (a :: b :: rest) pos) (rdE X.K (dAnd da db)) := by
  refine peI (pe_and ha hb) fun σ H Q h => ?_
  have q := rd_tB (rd_if (d1 := db) (d2 := fun _ S => some (.bl false, S)) h)
  obtain ⟨ρ, m, S, v, S', re, rs, h, k⟩ := q
  refine ⟨ρ, m, S, v, S', re, rs, h, fun x m' H' e s r => ?_⟩
  obtain ⟨c, ex, q⟩ := k x m' H' e s r
  refine ⟨c, ex, ?_⟩
  cases c with
  | true => exact q
  | false => exact rdE_bl q
theorem e_or (ha : PE X a (rdE X.K da)) (hb : PE X (.BoolOp .Or (b :: rest) pos) (rdE X.K db)) : PE X (.BoolOp .Or (a :: b :: rest) pos) (rdE X.K (dOr da db)) := by
  refine peI (pe_or ha hb) fun σ H Q h => ?_
  have q := rd_tB (rd_if (d1 := fun _ S => some (.bl true, S)) (d2 := db) h)
  obtain ⟨ρ, m, S, v, S', re, rs, h, k⟩ := q
  refine ⟨ρ, m, S, v, S', re, rs, h, fun x m' H' e s r => ?_⟩
  obtain ⟨c, ex, q⟩ := k x m' H' e s r
  refine ⟨c, ex, ?_⟩
  cases c with
  | true => exact rdE_bl q
  | false => exact q
theorem w_and (ha : PT X a (rdT X.K da)) (hb : PW X (.BoolOp .And (b :: rest) pos) (rdT X.K db)) : PW X (.BoolOp .And (a :: b :: rest) pos) (rdT X.K (dAnd da db)) := by
  refine pwI (pw_and ha hb) fun σ H Q h => ?_
  refine rdT_mono (rd_ifT (d1 := db) (d2 := fun _ S => some (.bl false, S)) h) fun c H' q => ?_
  cases c with
  | true => exact q
  | false => exact rdT_bl q
theorem w_or (ha : PT X a (rdT X.K da)) (hb : PW X (.BoolOp .Or (b :: rest) pos) (rdT X.K db)) : PW X (.BoolOp .Or (a :: b :: rest) pos) (rdT X.K (dOr da db)) := by
  refine pwI (pw_or ha hb) fun σ H Q h => ?_
  refine rdT_mono (rd_ifT (d1 := fun _ S => some (.bl true, S)) (d2 := db) h) fun c H' q => ?_
  cases c with
  | true => exact rdT_bl q
  | false => exact q
def dNot (da : Env → Store → R Val) : Env → Store → R Val := fun ρ S => bnd (da ρ S) fun x S1 => match x with | .bl b => some (.bl (!b), S1) | _ => none
theorem rd_not {K : PySem.W.Frag} {σ : L2.St} {H : Hp} {Q : Bool → Hp → Prop} (h : rdT K (dNot da) σ H Q) : rdT K da σ H fun c H1 => Q (!c) H1 := by
  obtain ⟨ρ, m, S, v, S', re, rs, h, k⟩ := h
  obtain ⟨a, S1, h1, h⟩ := bnd_eq_some h
  split at h
  · rename_i c
    cases h
    exact ⟨ρ, m, S, c, _, re, rs, h1, k⟩
  · cases h
theorem t_not (ha : PT X a (rdT X.K da)) : PT X (.UnaryOp .Not a pos) (rdT X.K (dNot da)) := ptI (pt_not ha) fun _ _ _ => rd_not
theorem e_not (ha : PE X a (rdE X.K da)) : PE X (.UnaryOp .Not a pos) (rdE X.K (dNot da)) := by
  refine peI (pe_not ha) ?_
  rintro σ H Q ⟨ρ, m, S, v, S', re, rs, h, k⟩
  obtain ⟨a, S1, h1, h⟩ := bnd_eq_some h
  split at h
  · rename_i c
    cases h
    exact step1 re rs h1 fun x m1 H1 e1 s1 r1 re1 => by cases r1; exact ⟨c, rfl, (k.mono e1).now s1 (.bl _)⟩
  · cases h
def dIf (dc da db : Env → Store → R Val) : Env → Store → R Val := fun ρ S => bnd (dc ρ S) fun x S1 => match x with | .bl true => da ρ S1 | .bl false => db ρ S1 | _ => none
theorem e_ife (hc : PT X c (rdT X.K dc)) (ha : PE X a (rdE X.K da)) (hb : PE X b (rdE X.K db)) : PE X (.IfExp c a b pos) (rdE X.K (dIf dc da db)) := peI (pe_ifExp hc ha hb) fun _ _ _ => rd_if
theorem t_ife (hc : PT X c (rdT X.K dc)) (ha : PT X a (rdT X.K da)) (hb : PT X b (rdT X.K db)) : PT X (.IfExp c a b pos) (rdT X.K (dIf dc da db)) := by
  refine ⟨fun pins s σ H Q I h => ?_⟩
  have h := rd_ifT h
  show wpAny _ _ (do if ← isTrue c X.env (eval c X.env) then isTrue a X.env (eval a X.env) else isTrue b X.env (eval b X.env)) _ _ s
  refine wpAny_bind (thn (hc.run pins s σ H _ I h) fun d s1 ⟨H1, I1, q1⟩ => ?_)
  cases d with
  | true => exact ha.run pins s1 σ H1 Q I1 q1
  | false => exact hb.run pins s1 σ H1 Q I1 q1
end
end Rf

/-! Rf5: arguments, displays, subscripts, calls, targets, what is walked, comprehensions. -/
namespace Rf
open PySem PySem.Spec PyProof.Rows L2

def plainE : Expr → Bool
  | .Starred .. => false
  | _ => true
theorem starE {e : Expr} {es : List Expr} {env : PySem.Env} (h : plainE e = true) : starEach (e :: es) env = (false, eval e env) :: starEach es env := by
  cases e <;> first | rfl | cases h
theorem starEs_any {env : PySem.Env} {pos : Pos} : ∀ {es : List Expr}, es.all plainE = true → (backTo pos (starEach es env)).any (·.1) = false
  | [], _ => rfl
  | e :: es, h => by
    simp only [List.all_cons, Bool.and_eq_true] at h
    rw [starE h.1]
    have := starEs_any (env := env) (pos := pos) h.2
    simpa [backTo] using this
theorem starEs_all {env : PySem.Env} {pos : Pos} : ∀ {es : List Expr}, es.all plainE = true → (backTo pos (starEach es env)).all (fun x => !x.1) = true
  | [], _ => rfl
  | e :: es, h => by
    simp only [List.all_cons, Bool.and_eq_true] at h
    rw [starE h.1]
    have := starEs_all (env := env) (pos := pos) h.2
    simpa [backTo] using this

section
variable {X : Cx} {a b c o e elt tg iter : Expr} {es : List Expr} {pos apos p p2 p3 : Pos} {da db dc de dl dh : Env → Store → R Val} {dA : Env → Store → R (List Val)}
theorem a_nil : PA X [] (rdA X.K fun _ S => some ([], S)) := paI pa_nil (by
  rintro σ H Q ⟨ρ, m, S, v, S', re, s, h, k⟩
  cases h
  exact k _ m H (.refl _ _) s .nil)
theorem a_cons (ha : PE X e (rdE X.K da)) (hr : PA X es (rdA X.K dA)) (hs : plainE e = true) : PA X (e :: es) (rdA X.K fun ρ S => bnd (da ρ S) fun v S1 => bnd (dA ρ S1) fun vs S2 => some (v :: vs, S2)) := by
  refine paI (pa_cons ha hr (starE hs)) ?_
  rintro σ H Q ⟨ρ, m, S, v, S', re, rs, h, k⟩
  obtain ⟨a, S1, h1, h⟩ := bnd_eq_some h
  obtain ⟨vs, S2, h2, h⟩ := bnd_eq_some h
  cases h
  exact step1 re rs h1 fun x m1 H1 e1 s1 r1 re1 => stepA re1 s1 h2 fun xs m2 H2 e2 s2 r2 re2 => k _ m2 H2 (e1.trans e2) s2 (.cons (r1.mono e2) r2)
theorem e_tup {x1 : Nat} (h : PA X es (rdA X.K dA)) : PE X (.Tuple es x1 pos) (rdE X.K fun ρ S => bnd (dA ρ S) fun vs S1 => newT vs S1) := by
  refine peI (pe_tup h) ?_
  rintro σ H Q ⟨ρ, m, S, v, S', re, rs, h, k⟩
  obtain ⟨vs, S1, h1, h⟩ := bnd_eq_some h
  obtain ⟨hl, rfl, rfl⟩ := newT_some h
  exact stepA re rs h1 fun xs m1 H1 e1 s1 r1 re1 => ⟨by rw [← r1.length]; exact hl, fun p hp => (k.mono e1).tup s1 r1 hp⟩
theorem e_lst (h : PA X es (rdA X.K dA)) : PE X (.List es pos) (rdE X.K fun ρ S => bnd (dA ρ S) fun vs S1 => newL vs S1) := by
  refine peI (pe_lst h) ?_
  rintro σ H Q ⟨ρ, m, S, v, S', re, rs, h, k⟩
  obtain ⟨vs, S1, h1, h⟩ := bnd_eq_some h
  obtain ⟨hl, rfl, rfl⟩ := newL_some h
  exact stepA re rs h1 fun xs m1 H1 e1 s1 r1 re1 => ⟨by rw [← r1.length]; exact hl, fun p hp => (k.mono e1).lst s1 r1 hp⟩

/-! subscripts -/
def noSlice : Expr → Bool
  | .Slice .. => false
  | _ => true
theorem plainIx {b : Expr} (h : noSlice b = true) : PlainIx b := fun o i => by cases b <;> first | rfl | cases h
def ixR : Val → Val → Store → R Val := fun x y S => match ixV x y S with
  | some v => some (v, S)
  | none => none
theorem e_idx (hu : X.A.units + 1 < cLine) (ha : PE X a (rdE X.K da)) (hb : PE X b (rdE X.K db)) (hs : noSlice b = true) :
    PE X (.Subscript a b pos) (rdE X.K fun ρ S => bnd (da ρ S) fun x S1 => bnd (db ρ S1) fun y S2 => match ixV x y S2 with | some v => some (v, S2) | none => none) := by
  refine peI (pe_ix (ok_ix hu) ha hb (plainIx hs)) fun σ H Q h => rd_op (f := ixR) (fun x y H Q h => ?_) h
  obtain ⟨m, S, a, b, v, S', s, ra, rb, h, k⟩ := h
  unfold ixR at h
  split at h
  · rename_i w e
    cases h
    exact ⟨m, S, a, b, _, s, ra, rb, e, fun z rz => k.now s rz⟩
  · cases h
def rdO (K : PySem.W.Frag) (nl : Bool) (d : Env → Store → R Val) : TO := fun σ H Q => ∃ ρ m S v S' o, RE m H ρ σ ∧ RS K m S H ∧ d ρ S = some (v, S') ∧ part nl v = some o ∧ ∀ m' H', Ext m H m' H' → RS K m' S' H' → Q o H'
theorem o_none : PO X none (rdO X.K true fun _ S => some (.non, S)) := ⟨fun pins s σ H Q I h => po_none.run pins s σ H Q I (by
  obtain ⟨ρ, m, S, v, S', o, re, rs, h, hp, k⟩ := h
  cases h
  cases hp
  exact k m H (.refl _ _) rs)⟩
theorem o_some (ha : PE X e (rdE X.K da)) : PO X (some e) (rdO X.K false da) := ⟨fun pins s σ H Q I h => (po_some ha).run pins s σ H Q I (by
  obtain ⟨ρ, m, S, v, S', o, re, rs, h, hp, k⟩ := h
  refine step1 re rs h fun x m1 H1 e1 s1 r1 re1 => ?_
  cases v with
  | int i =>
    cases hp
    cases r1
    exact ⟨i, rfl, k m1 H1 e1 s1⟩
  | non => cases hp
  | _ => cases hp)⟩
theorem e_sli {lo hi : Option Expr} {nl nh : Bool} (ha : PE X e (rdE X.K da)) (hl : PO X lo (rdO X.K nl dl)) (hh : PO X hi (rdO X.K nh dh)) :
    PE X (.Subscript e (.Slice lo hi none p2) pos) (rdE X.K fun ρ S => bnd (da ρ S) fun x S1 => bnd (dl ρ S1) fun l S2 => bnd (dh ρ S2) fun h S3 => match part nl l, part nh h with
      | some l, some h => slV x l h S3
      | _, _ => none) := by
  refine peI (pe_slice ok_sl ha hl hh) ?_
  rintro σ H Q ⟨ρ, m, S, v, S', re, rs, h, k⟩
  obtain ⟨a, S1, h1, h⟩ := bnd_eq_some h
  obtain ⟨l, S2, h2, h⟩ := bnd_eq_some h
  obtain ⟨u, S3, h3, h⟩ := bnd_eq_some h
  split at h
  · rename_i l' u' el eu
    exact step1 re rs h1 fun x m1 H1 e1 s1 r1 re1 => ⟨ρ, m1, S1, l, S2, l', re1, s1, h2, el, fun m2 H2 e2 s2 => ⟨ρ, m2, S2, u, S3, u', re1.mono e2, s2, h3, eu, fun m3 H3 e3 s3 => ⟨m3, S3, a, v, S', s3, r1.mono (e2.trans e3), h, k.mono (e1.trans (e2.trans e3))⟩⟩⟩
  · cases h
theorem e_rev {k : Nat} {p1 : Pos} (ha : PE X e (rdE X.K da)) : PE X (.Subscript e (.Slice none none (some (.UnaryOp .USub (.Constant (.int 1) k p1) p2)) p3) pos) (rdE X.K fun ρ S => bnd (da ρ S) fun x S1 => revV x S1) := by
  refine peI (pe_revA ha) ?_
  rintro σ H Q ⟨ρ, m, S, v, S', re, rs, h, k⟩
  obtain ⟨a, S1, h1, h⟩ := bnd_eq_some h
  refine step1 re rs h1 fun x m1 H1 e1 s1 r1 re1 => ?_
  cases a with
  | ref n =>
    simp only [revV] at h
    split at h
    · rename_i lk xs eS
      obtain ⟨hl, rfl, rfl⟩ := newL_some h
      cases r1 with
      | ref hm =>
        obtain ⟨ys, hq, ry⟩ := (s1.at eS hm).sq
        exact ⟨_, ys, rfl, .inl ⟨hq, fun p hp => (k.mono e1).lst s1 ry.reverse hp⟩⟩
    · cases h
  | tup xs =>
    cases h
    cases r1 with
    | @tup _ ad ys hb r2 => exact ⟨ad, ys, rfl, .inr ⟨SqT.of hb, fun p hp => (k.mono e1).tup s1 r2.reverse hp⟩⟩
  | _ => cases h

/-! calls -/
theorem rd_cb {K : PySem.W.Frag} {g : List Val → Store → R Val} {σ : L2.St} {H : Hp} {Q : VK} (h : rdE K (fun ρ S => bnd (dA ρ S) fun vs S1 => g vs S1) σ H Q) : tCB (rCB K g) (rdA K dA) σ H Q := by
  obtain ⟨ρ, m, S, v, S', re, rs, h, k⟩ := h
  obtain ⟨vs, S1, h1, h⟩ := bnd_eq_some h
  exact stepA re rs h1 fun xs m1 H1 e1 s1 r1 re1 => ⟨m1, S1, vs, v, S', s1, r1, h, k.mono e1⟩
theorem pe_callG {x : Str} {f : Addr} {r : List V → Hp → VK → Prop} {t : TA} (hc : CallR X (.ref f) r) (hg : Gl X x) (hm : X.mg x = some (.ref f)) (hk : PySem.W.keepIn X.K (.ref f) = true) (ha : PA X (e :: es) t) (hdb : (x == ("__debug__" : Str)) = false)
    (he : starEach (e :: es) X.env = (false, eval e X.env) :: starEach es X.env) (hpl : (backTo pos (starEach es X.env)).any (·.1) = false) : PE X (.Call (.Name x p) (e :: es) [] pos) (tCB r t) := by
  refine ⟨fun pins s σ H Q I h => ?_⟩
  refine wpAny_Call_Name_kw (ld_glob I hg hm ?_ hdb)
  exact PySem.W.callWith_K (h₀ := X.base) I.ok.mod.kin hk (thn (ha.run pos pins s σ H _ I h) fun us s1 ⟨vs, H1, I1, r, q⟩ => ⟨I1.kIn, hc pins s1 σ H1 vs us Q I1 r q⟩) he hpl
theorem pe_callG0 {x : Str} {f : Addr} {r : List V → Hp → VK → Prop} (hc : CallR X (.ref f) r) (hg : Gl X x) (hm : X.mg x = some (.ref f)) (hk : PySem.W.keepIn X.K (.ref f) = true) (hdb : (x == ("__debug__" : Str)) = false) :
    PE X (.Call (.Name x p) [] [] pos) (tCB r tNil) := by
  refine ⟨fun pins s σ H Q I h => ?_⟩
  refine wpAny_Call_Name_kw (ld_glob I hg hm ?_ hdb)
  exact PySem.W.callWith_K0 I.kIn hk (hc pins s σ H [] [] Q I .nil h)
theorem e_call {x : Str} {f : Addr} {g : List Val → Store → R Val} (hc : CallR X (.ref f) (rCB X.K g)) (hg : Gl X x) (hm : X.mg x = some (.ref f)) (hk : PySem.W.keepIn X.K (.ref f) = true) (ha : PA X (e :: es) (rdA X.K dA)) (hdb : (x == ("__debug__" : Str)) = false) (hs : plainE e = true) (hss : es.all plainE = true) :
    PE X (.Call (.Name x p) (e :: es) [] pos) (rdE X.K fun ρ S => bnd (dA ρ S) fun vs S1 => g vs S1) :=
  peI (pe_callG hc hg hm hk ha hdb (starE hs) (starEs_any hss)) fun _ _ _ => rd_cb
theorem e_call0 {x : Str} {f : Addr} {g : List Val → Store → R Val} (hc : CallR X (.ref f) (rCB X.K g)) (hg : Gl X x) (hm : X.mg x = some (.ref f)) (hk : PySem.W.keepIn X.K (.ref f) = true) (hdb : (x == ("__debug__" : Str)) = false) :
    PE X (.Call (.Name x p) [] [] pos) (rdE X.K fun ρ S => g [] S) := by
  refine peI (pe_callG0 hc hg hm hk hdb) ?_
  rintro σ H Q ⟨ρ, m, S, v, S', re, rs, h, k⟩
  exact ⟨m, S, [], v, S', rs, .nil, h, k⟩
def nameB : Bi → Str
  | .len => "len" | .int => "int" | .abs => "abs" | .max => "max" | .min => "min" | .sum => "sum" | .tuple => "tuple" | .list => "list" | .repr => "repr" | .all => "all" | .any => "any" | .isi => "isinstance" | .sorted => "sorted" | .dict => "dict"
theorem e_bi (hc : X.calm = true) (hu : X.A.units + 64 < cLine) (hgu : X.A.guards = some []) (bi : Bi) (hg : Gl X (nameB bi)) (hm : X.mg (nameB bi) = none) (ha : PA X (e :: es) (rdA X.K dA)) (hs : plainE e = true) (hss : es.all plainE = true) :
    PE X (.Call (.Name (nameB bi) p) (e :: es) [] pos) (rdE X.K fun ρ S => bnd (dA ρ S) fun vs S1 => biV bi vs S1) := by
  have ok := ok_bi hc hu hgu bi
  cases bi with
  | len => exact peI (pe_callB ok hg hm (by decide +kernel) ha (by decide) (by decide) (starE hs) (starEs_any hss)) fun _ _ _ => rd_cb
  | int => exact peI (pe_callTy ok hg hm (by decide +kernel) ha (by decide) (by decide) (starE hs) (starEs_any hss)) fun _ _ _ => rd_cb
  | abs => exact peI (pe_callB ok hg hm (by decide +kernel) ha (by decide) (by decide) (starE hs) (starEs_any hss)) fun _ _ _ => rd_cb
  | max => exact peI (pe_callB ok hg hm (by decide +kernel) ha (by decide) (by decide) (starE hs) (starEs_any hss)) fun _ _ _ => rd_cb
  | min => exact peI (pe_callB ok hg hm (by decide +kernel) ha (by decide) (by decide) (starE hs) (starEs_any hss)) fun _ _ _ => rd_cb
  | sum => exact peI (pe_callB ok hg hm (by decide +kernel) ha (by decide) (by decide) (starE hs) (starEs_any hss)) fun _ _ _ => rd_cb
  | tuple => exact peI (pe_callTy ok hg hm (by decide +kernel) ha (by decide) (by decide) (starE hs) (starEs_any hss)) fun _ _ _ => rd_cb
  | list => exact peI (pe_callTy ok hg hm (by decide +kernel) ha (by decide) (by decide) (starE hs) (starEs_any hss)) fun _ _ _ => rd_cb
  | repr => exact peI (pe_callB ok hg hm (by decide +kernel) ha (by decide) (by decide) (starE hs) (starEs_any hss)) fun _ _ _ => rd_cb
  | all => exact peI (pe_callB ok hg hm (by decide +kernel) ha (by decide) (by decide) (starE hs) (starEs_any hss)) fun _ _ _ => rd_cb
  | sorted => exact peI (pe_callB ok hg hm (by decide +kernel) ha (by decide) (by decide) (starE hs) (starEs_any hss)) fun _ _ _ => rd_cb
  | dict => exact peI (pe_callTy ok hg hm (by decide +kernel) ha (by decide) (by decide) (starE hs) (starEs_any hss)) fun _ _ _ => rd_cb
  | isi => exact peI (pe_callB ok hg hm (by decide +kernel) ha (by decide) (by decide) (starE hs) (starEs_any hss)) fun _ _ _ => rd_cb
  | any => exact peI (pe_callB ok hg hm (by decide +kernel) ha (by decide) (by decide) (starE hs) (starEs_any hss)) fun _ _ _ => rd_cb

/-! methods -/
def nameM : Mt → Str
  | .append => "append" | .pop => "pop" | .extend => "extend" | .get => "get" | .lcount => "count" | .tcount => "count" | .update => "update"
def plainO : Expr → Bool
  | .Call .. => false
  | _ => true
theorem plain_base {o : Expr} {f : Str} {env : PySem.Env} {w : Sem Value} (h : plainO o = true) : attributeBase o f env w = w := by
  cases o <;> first | rfl | cases h
def rcvT : Mt → String
  | .get => "dict"
  | .update => "dict"
  | _ => "list"
theorem rcv_ty {K : PySem.W.Frag} {m : List Addr} {H : Hp} {S : Store} {mt : Mt} {a : Val} {x : V} (s : RS K m S H) (r : RV m H a x) (hmt : mt ≠ .tcount) (h : rcvOk mt a S = true) : tyV K (rcvT mt) x H := by
  unfold rcvOk at h
  split at h
  · exact absurd rfl hmt
  · cases h
  · rename_i n
    split at h
    · rename_i kvs e
      cases r with
      | ref hm =>
        obtain ⟨ys, h1, _⟩ := s.at e hm
        exact .inr (.inr (.inl ⟨rfl, .inl ⟨ys, h1⟩⟩))
    · rename_i kvs e
      cases r with
      | ref hm =>
        obtain ⟨ys, h1, _⟩ := s.at e hm
        exact .inr (.inr (.inl ⟨rfl, .inr ⟨ys, h1⟩⟩))
    · cases h
  · rename_i n
    split at h
    · rename_i kvs e
      cases r with
      | ref hm =>
        obtain ⟨ys, h1, _⟩ := s.at e hm
        exact .inr (.inr (.inl ⟨rfl, .inl ⟨ys, h1⟩⟩))
    · cases h
  · rename_i n hne hnu
    split at h
    · rename_i lk xs e
      cases r with
      | ref hm =>
        obtain ⟨ys, hq, _⟩ := (s.at e hm).sq
        refine .inl ⟨?_, ys, hq⟩
        cases mt with
        | get => exact (hne rfl).elim
        | update => exact (hnu rfl).elim
        | tcount => exact absurd rfl hmt
        | _ => rfl
    · cases h
  · cases h
/-- a built-in class by its name -/
def tyNames : List String := ["int", "bool", "str", "tuple", "list", "dict"]
theorem e_ty {n : String} (hn : n ∈ tyNames) (hg : Gl X (Str.ofString n)) (hm : X.mg (Str.ofString n) = none) : PE X (.Name (Str.ofString n) pos) (rdE X.K fun _ S => some (.ty n, S)) := by
  have all : ∀ n ∈ tyNames, bootBuiltins (Str.ofString n) = some (.type n) ∧ Str.ofString n ≠ "__name__" ∧ (Str.ofString n == ("__debug__" : Str)) = false := by
    intro n h
    simp only [tyNames, List.mem_cons, List.not_mem_nil, or_false] at h
    rcases h with rfl | rfl | rfl | rfl | rfl | rfl <;> exact ⟨by decide +kernel, by decide +kernel, by decide +kernel⟩
  obtain ⟨h1, h2, h3⟩ := all n hn
  exact e_const (t := .ty n) (pe_bltn hg hm h1 rfl h2 h3) fun _ _ => .ty n
/-- a tuple known as it stands, counted in -/
def tFz (r : V → List V → Hp → VK → Prop) (to : TE) (t : TA) : TE := fun σ H Q => to σ H fun x H1 => (∃ (a : Addr) (arr : Array Value) (ys : List V), x = .ref a ∧ H1 a = some (.frz { cls := .type "tuple", data := .seq arr } (.tup ys))) ∧ t σ H1 fun xs H2 => r x xs H2 Q
theorem pe_fz {to : TE} {t : TA} {r : V → List V → Hp → VK → Prop} (hm : MtR X "tuple.count" r) (ho : PE X o to) (ha : PA X (e :: es) t) (hbase : attributeBase o "count" X.env (eval o X.env) = eval o X.env)
    (hfew : ((backTo pos (starEach (e :: es) X.env)).all (fun x => !x.1) && (backToKw pos (keywordEach [] X.env)).all (fun x => x.1.isSome) && decide ((e :: es).length + ([] : List Keyword).length + (if ([] : List Keyword).isEmpty then 0 else 1) < 30)) = true)
    (hline : (apos.endLine == pos.line) = true) (hs : starEach (e :: es) X.env = (false, eval e X.env) :: starEach es X.env) (hplain : (backTo pos (starEach es X.env)).any (·.1) = false) : PE X (.Call (.Attribute o "count" apos) (e :: es) [] pos) (tFz r to t) := by
  refine ⟨fun pins s σ H Q I h => wpAny_Call_method_late hbase hfew hline rfl (thn (ho.run pins s σ H _ I h) fun v s1 ⟨x, H1, I1, r1, ⟨a, arr, ys, ex, hf⟩, q1⟩ => ?_)⟩
  subst ex
  cases r1
  have hg : s1.heap.get? a = some { cls := .type "tuple", data := .seq arr } := (show ObjOk X.prog X.w H1 s1.heap a (.frz { cls := .type "tuple", data := .seq arr } (.tup ys)) from I1.hok a _ hf).1
  refine ⟨"tuple", "tuple.count", PySem.F.plainAttrs_tuple, PySem.F.slot_tuple_count, PySem.F.type_tuple_count, ⟨_, hg, rfl⟩, fun b eb => ?_, ?_⟩
  · cases eb
    exact ⟨_, hg, rfl⟩
  · have hA := ha.run pos pins s1 σ H1 _ I1 q1
    rw [hs] at hA ⊢
    refine Calls.callWith_builtin ?_ (Calls.evalArgs_plain (thn hA fun us s2 ⟨vs, H2, I2, r2, q2⟩ => hm pins s2 σ H2 (.ref a) vs (.ref a) us Q I2 rfl r2 q2))
    show (false || (backTo pos (starEach es X.env)).any (·.1)) = false
    rw [hplain]; rfl
theorem e_mt (hu : X.A.units + 1 < cLine) (mt : Mt) (ho : PE X o (rdE X.K da)) (ha : PA X (e :: es) (rdA X.K dA)) (hs : plainE e = true) (hss : es.all plainE = true) (hb : plainO o = true) (hn : (e :: es).length < 20) (hl : (apos.endLine == pos.line) = true) :
    PE X (.Call (.Attribute o (nameM mt) apos) (e :: es) [] pos) (rdE X.K fun ρ S => bnd (da ρ S) fun x S1 => if rcvOk mt x S1 then bnd (dA ρ S1) fun vs S2 => mtV mt x vs S2 else none) := by
  have few : ((backTo pos (starEach (e :: es) X.env)).all (fun x => !x.1) && (backToKw pos (keywordEach [] X.env)).all (fun x => x.1.isSome)
      && decide ((e :: es).length + ([] : List Keyword).length + (if ([] : List Keyword).isEmpty then 0 else 1) < 30)) = true := by
    rw [starEs_all (by simp [hs, hss])]
    simp only [Bool.true_and, Bool.and_eq_true]
    exact ⟨rfl, by simp only [List.length_nil, List.isEmpty_nil, if_true, decide_eq_true_eq]; omega⟩
  have red : mt ≠ .tcount → ∀ σ H Q, rdE X.K (fun ρ S => bnd (da ρ S) fun x S1 => if rcvOk mt x S1 then bnd (dA ρ S1) fun vs S2 => mtV mt x vs S2 else none) σ H Q → tBM X.K (rcvT mt) (rM X.K (mtV mt)) (rdE X.K da) (rdA X.K dA) σ H Q := by
    rintro hmt σ H Q ⟨ρ, m, S, v, S', re, rs, h, k⟩
    obtain ⟨a, S1, h1, h⟩ := bnd_eq_some h
    split at h
    · rename_i hr
      obtain ⟨vs, S2, h2, h⟩ := bnd_eq_some h
      exact step1 re rs h1 fun x m1 H1 e1 s1 r1 re1 => ⟨rcv_ty s1 r1 hmt hr, stepA re1 s1 h2 fun xs m2 H2 e2 s2 r2 re2 => ⟨m2, S2, a, vs, v, S', s2, r1.mono e2, r2, h, k.mono (e1.trans e2)⟩⟩
    · cases h
  have ok := ok_mt (X := X) hu mt
  cases mt with
  | tcount =>
    refine peI (pe_fz ok ho ha (plain_base hb) few hl (starE hs) (starEs_any hss)) ?_
    rintro σ H Q ⟨ρ, m, S, v, S', re, rs, h, k⟩
    obtain ⟨a, S1, h1, h⟩ := bnd_eq_some h
    split at h
    · rename_i hr
      obtain ⟨vs, S2, h2, h⟩ := bnd_eq_some h
      refine step1 re rs h1 fun x m1 H1 e1 s1 r1 re1 => ⟨?_, stepA re1 s1 h2 fun xs m2 H2 e2 s2 r2 re2 => ⟨m2, S2, a, vs, v, S', s2, r1.mono e2, r2, h, k.mono (e1.trans e2)⟩⟩
      cases r1 with
      | ftup hf hc rr => exact ⟨_, _, _, rfl, hf⟩
      | _ => cases hr
    · cases h
  | lcount => exact peI (pe_bm PySem.F.plainAttrs_list PySem.F.slot_list_count PySem.F.type_list_count ok ho ha (plain_base hb) few hl (starE hs) (starEs_any hss)) (red (by decide))
  | append => exact peI (pe_bm PySem.F.plainAttrs_list PySem.F.slot_list_append PySem.F.type_list_append ok ho ha (plain_base hb) few hl (starE hs) (starEs_any hss)) (red (by decide))
  | pop => exact peI (pe_bm PySem.F.plainAttrs_list PySem.F.slot_list_pop PySem.F.type_list_pop ok ho ha (plain_base hb) few hl (starE hs) (starEs_any hss)) (red (by decide))
  | update => exact peI (pe_bm PySem.F.plainAttrs_dict PySem.F.slot_dict_update PySem.F.type_dict_update ok ho ha (plain_base hb) few hl (starE hs) (starEs_any hss)) (red (by decide))
  | get => exact peI (pe_bm PySem.F.plainAttrs_dict PySem.F.slot_dict_get PySem.F.type_dict_get ok ho ha (plain_base hb) few hl (starE hs) (starEs_any hss)) (red (by decide))
  | extend => exact peI (pe_bm PySem.F.plainAttrs_list PySem.F.slot_list_extend PySem.F.type_list_extend ok ho ha (plain_base hb) few hl (starE hs) (starEs_any hss)) (red (by decide))
theorem e_mt0 (hu : X.A.units + 1 < cLine) (mt : Mt) (ho : PE X o (rdE X.K da)) (hb : plainO o = true) (hl : (apos.endLine == pos.line) = true) :
    PE X (.Call (.Attribute o (nameM mt) apos) [] [] pos) (rdE X.K fun ρ S => bnd (da ρ S) fun x S1 => if rcvOk mt x S1 then mtV mt x [] S1 else none) := by
  have red : mt ≠ .tcount → ∀ σ H Q, rdE X.K (fun ρ S => bnd (da ρ S) fun x S1 => if rcvOk mt x S1 then mtV mt x [] S1 else none) σ H Q → tBM0 X.K (rcvT mt) (rM X.K (mtV mt)) (rdE X.K da) σ H Q := by
    rintro hmt σ H Q ⟨ρ, m, S, v, S', re, rs, h, k⟩
    obtain ⟨a, S1, h1, h⟩ := bnd_eq_some h
    split at h
    · rename_i hr
      exact step1 re rs h1 fun x m1 H1 e1 s1 r1 re1 => ⟨rcv_ty s1 r1 hmt hr, ⟨m1, S1, a, [], v, S', s1, r1, .nil, h, k.mono e1⟩⟩
    · cases h
  have ok := ok_mt (X := X) hu mt
  cases mt with
  | tcount =>
    refine ⟨fun pins s σ H Q I h => ?_⟩
    obtain ⟨ρ, m, S, v, S', re, rs, h, k⟩ := h
    obtain ⟨a, S1, h1, h⟩ := bnd_eq_some h
    split at h
    · cases a <;> cases h
    · cases h
  | lcount => exact peI (pe_bm0 PySem.F.plainAttrs_list PySem.F.slot_list_count PySem.F.type_list_count ok ho (plain_base hb) hl) (red (by decide))
  | append => exact peI (pe_bm0 PySem.F.plainAttrs_list PySem.F.slot_list_append PySem.F.type_list_append ok ho (plain_base hb) hl) (red (by decide))
  | pop => exact peI (pe_bm0 PySem.F.plainAttrs_list PySem.F.slot_list_pop PySem.F.type_list_pop ok ho (plain_base hb) hl) (red (by decide))
  | update => exact peI (pe_bm0 PySem.F.plainAttrs_dict PySem.F.slot_dict_update PySem.F.type_dict_update ok ho (plain_base hb) hl) (red (by decide))
  | get => exact peI (pe_bm0 PySem.F.plainAttrs_dict PySem.F.slot_dict_get PySem.F.type_dict_get ok ho (plain_base hb) hl) (red (by decide))
  | extend => exact peI (pe_bm0 PySem.F.plainAttrs_list PySem.F.slot_list_extend PySem.F.type_list_extend ok ho (plain_base hb) hl) (red (by decide))
end
end Rf

/-! Rf6: targets, what is walked. -/
namespace Rf
open PySem PySem.Spec PyProof.Rows L2

/-! ### what is walked -/
section
variable {K : PySem.W.Frag} {m m2 : List Addr} {H H2 : Hp} {S2 : Store}
def TupAt (m : List Addr) (H : Hp) (a : Addr) (ys : List V) : Prop := H a = some (.tup ys) ∨ ((∃ ob, H a = some (.frz ob (.tup ys))) ∧ ∀ n : Nat, m[n]? = some a → n = 0)
theorem TupAt.mono {a : Addr} {ys : List V} (e : Ext m H m2 H2) (h : TupAt m H a ys) : TupAt m2 H2 a ys := by
  rcases h with h | ⟨⟨ob, h⟩, hc⟩
  · exact .inl (e.tups _ _ h)
  · exact .inr ⟨⟨ob, e.keep _ _ h hc⟩, e.out h hc⟩
theorem TupAt.sq {a : Addr} {ys : List V} (h : TupAt m H a ys) : SqT K H a ys := by
  rcases h with h | ⟨⟨ob, h⟩, hc⟩
  · exact .of h
  · exact .inl (.inr ⟨ob, h⟩)
/-- the sequence that a source is, at an address -/
def SrcAt (m : List Addr) (H : Hp) : Src → Addr × Bool → Prop
  | .l n, p => p.2 = false ∧ m[n]? = some p.1
  | .t xs, p => p.2 = true ∧ ∃ ys, TupAt m H p.1 ys ∧ RVs m H xs ys
theorem SrcAt.mono {s : Src} {p : Addr × Bool} (e : Ext m H m2 H2) (h : SrcAt m H s p) : SrcAt m2 H2 s p := by
  cases s with
  | l n => exact ⟨h.1, e.get h.2⟩
  | t xs => obtain ⟨h1, ys, h2, r⟩ := h; exact ⟨h1, ys, h2.mono e, r.mono e⟩
/-- its items now -/
theorem SrcAt.sq {s : Src} {p : Addr × Bool} {i : Nat} {o : Option Val} (h : SrcAt m H s p) (r : RS K m S2 H) (ho : srcAt s i S2 = some o) :
    ∃ ys, SqA K H p.1 p.2 ys ∧ (o = none → ys.length ≤ i) ∧ ∀ v, o = some v → i < ys.length ∧ ∃ x, ys[i]? = some x ∧ RV m H v x := by
  obtain ⟨a, tp⟩ := p
  have fin : ∀ {xs : List Val} {ys : List V}, RVs m H xs ys → o = xs[i]? → (o = none → ys.length ≤ i) ∧ ∀ v, o = some v → i < ys.length ∧ ∃ x, ys[i]? = some x ∧ RV m H v x := fun {xs ys} rv e => by
    refine ⟨fun hn => ?_, fun v hv => ?_⟩
    · rw [e] at hn
      rw [← rv.length]
      exact List.getElem?_eq_none_iff.mp hn
    · rw [e] at hv
      obtain ⟨x, hx, rx⟩ := rv.get hv
      exact ⟨(List.getElem?_eq_some_iff.mp hx).1, x, hx, rx⟩
  cases s with
  | l n =>
    obtain ⟨h1, h2⟩ := h
    dsimp only at h1 h2
    subst h1
    simp only [srcAt] at ho
    split at ho
    · rename_i lk xs e
      cases ho
      obtain ⟨ys, hq, rv⟩ := (r.at e h2).sq
      exact ⟨ys, hq, fin rv rfl⟩
    · cases ho
  | t xs =>
    obtain ⟨h1, ys, h2, rv⟩ := h
    dsimp only at h1 h2
    subst h1
    cases ho
    exact ⟨ys, h2.sq, fin rv rfl⟩
theorem src_of {v : Val} {x : V} {s : Src} (r : RS K m S2 H) (rv : RV m H v x) (h : srcOf v S2 = some s) : ∃ p : Addr × Bool, x = .ref p.1 ∧ SrcAt m H s p ∧ ∃ xs, SqA K H p.1 p.2 xs := by
  cases v with
  | tup xs =>
    cases h
    cases rv with
    | @tup _ a ys hb r2 => exact ⟨(a, true), rfl, ⟨rfl, ys, .inl hb, r2⟩, ys, SqT.of hb⟩
  | ftup xs =>
    cases h
    cases rv with
    | @ftup _ a ys arr hb hc r2 => exact ⟨(a, true), rfl, ⟨rfl, ys, .inr ⟨⟨_, hb⟩, hc⟩, r2⟩, ys, .inl (.inr ⟨_, hb⟩)⟩
  | ref n =>
    simp only [srcOf] at h
    split at h
    · rename_i lk xs e
      cases h
      cases rv with
      | @ref _ a hm =>
        obtain ⟨ys, hq, _⟩ := (r.at e hm).sq
        exact ⟨(a, false), rfl, ⟨rfl, hm⟩, ys, hq⟩
    · cases h
  | _ => cases h
/-- sources and their sequences -/
inductive SrcsAt (m : List Addr) (H : Hp) : List Src → List (Addr × Bool) → Prop where
  | nil : SrcsAt m H [] []
  | cons {s : Src} {ss : List Src} {p : Addr × Bool} {ps : List (Addr × Bool)} : SrcAt m H s p → SrcsAt m H ss ps → SrcsAt m H (s :: ss) (p :: ps)
theorem SrcsAt.mono (e : Ext m H m2 H2) : ∀ {ss : List Src} {ps : List (Addr × Bool)}, SrcsAt m H ss ps → SrcsAt m2 H2 ss ps
  | _, _, .nil => .nil
  | _, _, .cons a b => .cons (a.mono e) (b.mono e)
theorem srcs_of (r : RS K m S2 H) : ∀ {vs : List Val} {xs : List V} {ss : List Src}, RVs m H vs xs → mapO (fun v => srcOf v S2) vs = some ss →
    ∃ ps : List (Addr × Bool), xs = ps.map (fun p => V.ref p.1) ∧ SrcsAt m H ss ps ∧ ∀ p ∈ ps, ∃ ys, SqA K H p.1 p.2 ys
  | [], _, _, .nil, h => by cases h; exact ⟨[], rfl, .nil, fun p hp => by cases hp⟩
  | v :: vs, _, _, .cons a b, h => by
    obtain ⟨s, ss, h1, h2, rfl⟩ := mapO_cons h
    obtain ⟨p, rfl, hs, hq⟩ := src_of r a h1
    obtain ⟨ps, rfl, hss, hqs⟩ := srcs_of r b h2
    refine ⟨p :: ps, rfl, .cons hs hss, fun q hq' => ?_⟩
    rcases List.mem_cons.mp hq' with e | hq'
    · rw [e]; exact hq
    · exact hqs q hq'
theorem zip_all {i : Nat} (r : RS K m S2 H) : ∀ {ss : List Src} {ps : List (Addr × Bool)} {o : Option (List Val)}, SrcsAt m H ss ps → zipAt ss i S2 = some o →
    ∃ f : Nat → List V, (∀ (j : Nat) (p : Addr × Bool), ps[j]? = some p → SqA K H p.1 p.2 (f j)) ∧ (o = none → ∃ j, j < ps.length ∧ (f j).length ≤ i) ∧
      ∀ vs, o = some vs → (∀ (j : Nat) (p : Addr × Bool), ps[j]? = some p → i < (f j).length) ∧ ∀ xs : List V, xs.length = ps.length → (∀ j, j < ps.length → xs[j]? = (f j)[i]?) → RVs m H vs xs
  | _, _, o, .nil, h => by
    cases h
    refine ⟨fun _ => [], fun j p e => ?_, fun q => ?_, fun vs e => ?_⟩
    · simp at e
    · cases q
    cases e
    refine ⟨fun j p e => by simp at e, fun xs hx _ => ?_⟩
    rw [List.length_nil] at hx
    rw [List.eq_nil_of_length_eq_zero hx]
    exact .nil
  | s :: ss, p :: ps, o, .cons a b, h => by
    simp only [zipAt] at h
    split at h
    · cases h
    · rename_i o1 h1
      split at h
      · cases h
      · rename_i o2 h2
        obtain ⟨ys, hq, hy1, hy2⟩ := a.sq r h1
        obtain ⟨f, f1, f2, f3⟩ := zip_all r b h2
        refine ⟨fun j => match j with | 0 => ys | j + 1 => f j, fun j q e => ?_, fun e => ?_, fun vs e => ?_⟩
        · cases j with
          | zero => cases e; exact hq
          | succ j => exact f1 j q e
        · cases h
          cases o1 with
          | none => exact ⟨0, by simp, hy1 rfl⟩
          | some v =>
            cases o2 with
            | none =>
              obtain ⟨j, hj, hl⟩ := f2 rfl
              exact ⟨j + 1, by simpa using hj, hl⟩
            | some vs => cases e
        · cases h
          cases o1 with
          | none => cases e
          | some v =>
            cases o2 with
            | none => cases e
            | some vs2 =>
              cases e
              obtain ⟨hl, x, hx, rx⟩ := hy2 v rfl
              obtain ⟨g1, g2⟩ := f3 vs2 rfl
              refine ⟨fun j q e => ?_, fun xs hxl hxs => ?_⟩
              · cases j with
                | zero => exact hl
                | succ j => exact g1 j q e
              · cases xs with
                | nil => simp at hxl
                | cons x0 xs =>
                  have e0 := hxs 0 (by simp)
                  have e0' : some x0 = ys[i]? := e0
                  rw [hx] at e0'
                  cases e0'
                  exact .cons rx (g2 xs (by simpa using hxl) fun j hj => hxs (j + 1) (by simpa using hj))
/-! iterators -/
theorem it_seq {s : Src} {p : Addr × Bool} (h : SrcAt m H s p) : ItOk K m H (ItS K p) (.seq s) := by
  intro i m2 H2 S2 e r
  have h2 := h.mono e
  obtain ⟨a, tp⟩ := p
  cases tp with
  | false =>
    refine ⟨fun ho => ?_, fun v ho => ?_⟩
    · obtain ⟨ys, hq, h1, _⟩ := h2.sq r ho
      exact ⟨ys, hq, h1 rfl⟩
    · obtain ⟨ys, hq, _, h1⟩ := h2.sq r ho
      obtain ⟨_, x, hx, rx⟩ := h1 v rfl
      refine ⟨⟨ys, x, hq, hx⟩, fun y H3 hy => ?_⟩
      obtain ⟨rfl, hy⟩ := hy
      have hy := hy ys hq
      rw [hx] at hy; cases hy
      exact ⟨.refl _ _, r, rx⟩
  | true =>
    refine ⟨fun ho => ?_, fun v ho => ?_⟩
    · obtain ⟨ys, hq, h1, _⟩ := h2.sq r ho
      exact ⟨ys, hq, h1 rfl⟩
    · obtain ⟨ys, hq, _, h1⟩ := h2.sq r ho
      obtain ⟨_, x, hx, rx⟩ := h1 v rfl
      refine ⟨⟨ys, x, hq, hx⟩, fun y H3 hy => ?_⟩
      obtain ⟨rfl, hy⟩ := hy
      have hy := hy ys hq
      rw [hx] at hy; cases hy
      exact ⟨.refl _ _, r, rx⟩
theorem it_rng {lo : Int} {n : Nat} : ItOk K m H (Itr lo n) (.rng lo 1 n) := by
  intro i m2 H2 S2 e r
  refine ⟨fun ho => ?_, fun v ho => ?_⟩
  · simp only [itAt] at ho
    split at ho
    · cases ho
    · exact Nat.le_of_not_lt (by assumption)
  · simp only [itAt] at ho
    split at ho
    · rename_i hi
      cases ho
      refine ⟨hi, fun x H3 hy => ?_⟩
      obtain ⟨rfl, rfl⟩ := hy
      rw [Int.mul_one]
      exact ⟨.refl _ _, r, .int _⟩
    · cases ho
theorem it_enum {s : Src} {p : Addr × Bool} (h : SrcAt m H s p) : ItOk K m H (IteN K p) (.enum s) := by
  intro i m2 H2 S2 e r
  have h2 := h.mono e
  simp only [itAt]
  cases ho : srcAt s i S2 with
  | none => exact ⟨fun q => (by cases q), fun v q => (by cases q)⟩
  | some o =>
    obtain ⟨ys, hq, h1, h3⟩ := h2.sq r ho
    refine ⟨fun q => ?_, fun v q => ?_⟩
    · cases o with
      | none => exact ⟨ys, hq, h1 rfl⟩
      | some w => cases q
    · cases o with
      | none => cases q
      | some w =>
        cases q
        obtain ⟨hl, x, hx, rx⟩ := h3 w rfl
        refine ⟨⟨ys, hq, hl⟩, fun y H3 hy => ?_⟩
        obtain ⟨T, z, rfl, hT, rfl, hz⟩ := hy
        have hz := hz ys hq
        rw [hx] at hz; cases hz
        have e2 := ext_new (m := m2) (ho := .tup [.int (i : Nat), x]) hT
        exact ⟨e2, r.laidT hT, .tup upd_same (.cons (.int _) (.cons (rx.mono e2) .nil))⟩
theorem it_zip {ss : List Src} {ps : List (Addr × Bool)} (h : SrcsAt m H ss ps) : ItOk K m H (ItzN K ps) (.zip ss) := by
  intro i m2 H2 S2 e r
  have h2 := h.mono e
  simp only [itAt]
  cases ho : zipAt ss i S2 with
  | none => exact ⟨fun q => (by cases q), fun v q => (by cases q)⟩
  | some o =>
    obtain ⟨f, f1, f2, f3⟩ := zip_all r h2 ho
    refine ⟨fun q => ?_, fun v q => ?_⟩
    · cases o with
      | none => exact ⟨f, f1, f2 rfl⟩
      | some w => cases q
    · cases o with
      | none => cases q
      | some vs =>
        cases q
        obtain ⟨g1, g2⟩ := f3 vs rfl
        refine ⟨⟨f, fun j p hj => ⟨f1 j p hj, g1 j p hj⟩⟩, fun y H3 hy => ?_⟩
        obtain ⟨T, zs, rfl, hT, rfl, hzl, hz⟩ := hy
        have e2 := ext_new (m := m2) (ho := .tup zs) hT
        refine ⟨e2, r.laidT hT, .tup upd_same ((g2 zs hzl fun j hj => ?_).mono e2)⟩
        exact hz j _ (f j) (List.getElem?_eq_getElem hj) (f1 j _ (List.getElem?_eq_getElem hj))
theorem it_zipn {ss : List Src} {ps : List (Addr × Bool)} (h : SrcsAt m H ss ps) : ItOk K m H (ItzF K ps) (.zipn ss) := by
  intro i m2 H2 S2 e r
  have h2 := h.mono e
  simp only [itAt]
  cases ho : zipAt ss i S2 with
  | none => exact ⟨fun q => (by cases q), fun v q => (by cases q)⟩
  | some o =>
    obtain ⟨f, f1, f2, f3⟩ := zip_all r h2 ho
    refine ⟨fun q => ?_, fun v q => ?_⟩
    · cases o with
      | none => exact ⟨f, f1, f2 rfl⟩
      | some w => cases q
    · cases o with
      | none => cases q
      | some vs =>
        cases q
        obtain ⟨g1, g2⟩ := f3 vs rfl
        refine ⟨⟨f, fun j p hj => ⟨f1 j p hj, g1 j p hj⟩⟩, fun y H3 hy => ?_⟩
        obtain ⟨T, zs, arr, rfl, hT, rfl, hzl, hz⟩ := hy
        have e2 := ext_new (m := m2) (ho := .frz { cls := .type "tuple", data := .seq arr } (.tup zs)) hT
        refine ⟨e2, r.laidT hT, .ftup upd_same (r.out hT) ((g2 zs hzl fun j hj => ?_).mono e2)⟩
        exact hz j _ (f j) (List.getElem?_eq_getElem hj) (f1 j _ (List.getElem?_eq_getElem hj))
end

section
variable {X : Cx} {a e e2 e3 tg : Expr} {es elts : List Expr} {pos p tpos : Pos} {kk : Nat} {da db dc : Env → Store → R Val} {dA : Env → Store → R (List Val)}
theorem i_ex (he : PE X e (rdE X.K da)) : PI X tg e (rdI X.K fun ρ S => bnd (da ρ S) fun v S1 => match srcOf v S1 with | some s => some (.seq s, S1) | none => none) := by
  refine piI (pi_seq he) ?_
  rintro σ H R ⟨ρ, m, S, J, S', re, rs, h, k⟩
  obtain ⟨a, S1, h1, h⟩ := bnd_eq_some h
  split at h
  · rename_i s es
    cases h
    refine step1 re rs h1 fun x m1 H1 e1 s1 r1 re1 => ?_
    obtain ⟨p, rfl, hs, hq⟩ := src_of s1 r1 es
    exact ⟨p, rfl, hq, k _ m1 H1 e1 s1 (it_seq hs)⟩
  · cases h
theorem rngOk_ok {i : Int} (h : rngOk i = true) : -(2 ^ 62) ≤ i ∧ i < 2 ^ 62 := by
  simpa [rngOk] using h
def dRng (dA : Env → Store → R (List Val)) : Env → Store → R Itv := fun ρ S => bnd (dA ρ S) fun vs S1 => match rngV vs with
  | some J => some (J, S1)
  | none => none
theorem i_rng1 (hg : Gl X "range") (hm : X.mg "range" = none) (ha : PA X [a] (rdA X.K dA)) (hs : plainE a = true) (h1 : ∀ ρ S vs S1, dA ρ S = some (vs, S1) → vs.length = 1) :
    PI X tg (.Call (.Name "range" p) [a] [] pos) (rdI X.K (dRng dA)) := by
  refine piI (pi_range1 hg hm ha (starE hs)) ?_
  rintro σ H R ⟨ρ, m, S, J, S', re, rs, h, k⟩
  obtain ⟨vs, S1, h2, h⟩ := bnd_eq_some h
  have hl := h1 _ _ _ _ h2
  refine stepA re rs h2 fun xs m1 H1 e1 s1 r1 re1 => ?_
  match vs, hl, h, r1 with
  | [v], _, h, r1 =>
    obtain ⟨x, rfl, rx⟩ := r1.one
    cases v with
    | int j =>
      simp only [rngV] at h
      split at h
      · rename_i J' eJ
        cases h
        split at eJ
        · rename_i ok
          cases eJ
          cases rx
          exact ⟨j, rfl, (rngOk_ok ok).1, (rngOk_ok ok).2, k _ m1 H1 e1 s1 it_rng⟩
        · cases eJ
      · cases h
    | _ => cases h
theorem i_rng2 {b : Expr} (hg : Gl X "range") (hm : X.mg "range" = none) (ha : PA X [a, b] (rdA X.K dA)) (hs : plainE a = true) (hs2 : plainE b = true) (h1 : ∀ ρ S vs S1, dA ρ S = some (vs, S1) → vs.length = 2) :
    PI X tg (.Call (.Name "range" p) [a, b] [] pos) (rdI X.K (dRng dA)) := by
  refine piI (pi_range2 hg hm ha (by rw [starE hs, starE hs2]; rfl) (starE hs2)) ?_
  rintro σ H R ⟨ρ, m, S, J, S', re, rs, h, k⟩
  obtain ⟨vs, S1, h2, h⟩ := bnd_eq_some h
  have hl := h1 _ _ _ _ h2
  refine stepA re rs h2 fun xs m1 H1 e1 s1 r1 re1 => ?_
  match vs, hl, h, r1 with
  | [v, w], _, h, r1 =>
    obtain ⟨x, y, rfl, rx, ry⟩ := r1.two
    cases v with
    | int i =>
      cases w with
      | int j =>
        simp only [rngV] at h
        split at h
        · rename_i J' eJ
          cases h
          split at eJ
          · rename_i ok
            cases eJ
            cases rx
            cases ry
            rw [Bool.and_eq_true] at ok
            exact ⟨i, j, rfl, ⟨(rngOk_ok ok.1).1, (rngOk_ok ok.1).2, (rngOk_ok ok.2).1, (rngOk_ok ok.2).2⟩, k _ m1 H1 e1 s1 it_rng⟩
          · cases eJ
        · cases h
      | _ => cases h
    | _ => cases h
theorem i_enum (hg : Gl X "enumerate") (hm : X.mg "enumerate" = none) (he : PE X e (rdE X.K da)) (hs : plainE e = true) :
    PI X (.Tuple elts kk tpos) (.Call (.Name "enumerate" p) [e] [] pos) (rdI X.K fun ρ S => bnd (da ρ S) fun v S1 => match srcOf v S1 with | some s => some (.enum s, S1) | none => none) := by
  refine piI (pi_enumN hg hm (pa_cons he pa_nil (starE hs)) (starE hs)) ?_
  rintro σ H R ⟨ρ, m, S, J, S', re, rs, h, k⟩
  obtain ⟨a, S1, h1, h⟩ := bnd_eq_some h
  split at h
  · rename_i s es
    cases h
    refine step1 re rs h1 fun x m1 H1 e1 s1 r1 re1 => ?_
    obtain ⟨p, rfl, hs, xs, hq⟩ := src_of s1 r1 es
    exact ⟨p, xs, rfl, hq, k _ m1 H1 e1 s1 (it_enum hs)⟩
  · cases h
def dZip (dA : Env → Store → R (List Val)) : Env → Store → R Itv := fun ρ S => bnd (dA ρ S) fun vs S1 => match mapO (fun v => srcOf v S1) vs with
  | some ss => some (.zip ss, S1)
  | none => none
theorem rd_zip {K : PySem.W.Frag} {σ : L2.St} {H : Hp} {R : It → Hp → Prop} (h : rdI K (dZip dA) σ H R) : iZipN K (rdA K dA) σ H R := by
  obtain ⟨ρ, m, S, J, S', re, rs, h, k⟩ := h
  obtain ⟨vs, S1, h2, h⟩ := bnd_eq_some h
  split at h
  · rename_i ss es
    cases h
    refine stepA re rs h2 fun xs m1 H1 e1 s1 r1 re1 => ?_
    obtain ⟨ps, rfl, hs, hq⟩ := srcs_of s1 r1 es
    exact ⟨ps, rfl, hq, k _ m1 H1 e1 s1 (it_zip hs)⟩
  · cases h
theorem rdA_len {K : PySem.W.Frag} {n : Nat} (h1 : ∀ ρ S vs S1, dA ρ S = some (vs, S1) → vs.length = n) {σ : L2.St} {H : Hp} {Q : List V → Hp → Prop} (h : rdA K dA σ H Q) : rdA K dA σ H fun vs H1 => vs.length = n ∧ Q vs H1 := by
  obtain ⟨ρ, m, S, v, S', re, rs, h, k⟩ := h
  exact ⟨ρ, m, S, v, S', re, rs, h, fun xs m' H' e s r => ⟨by rw [← r.length]; exact h1 _ _ _ _ h, k xs m' H' e s r⟩⟩
theorem i_zip2 (hg : Gl X "zip") (hm : X.mg "zip" = none) (ha : PA X [e, e2] (rdA X.K dA)) (hs : plainE e = true) (hs2 : plainE e2 = true) (h1 : ∀ ρ S vs S1, dA ρ S = some (vs, S1) → vs.length = 2) :
    PI X (.Tuple elts kk tpos) (.Call (.Name "zip" p) [e, e2] [] pos) (rdI X.K (dZip dA)) :=
  piI (pi_zip2 hg hm ha (starE hs) (starEs_any (by simp [hs2])) fun _ _ _ h => rdA_len h1 h) fun _ _ _ => rd_zip
theorem i_zip3 (hg : Gl X "zip") (hm : X.mg "zip" = none) (ha : PA X [e, e2, e3] (rdA X.K dA)) (hs : plainE e = true) (hs2 : plainE e2 = true) (hs3 : plainE e3 = true) (h1 : ∀ ρ S vs S1, dA ρ S = some (vs, S1) → vs.length = 3) :
    PI X (.Tuple elts kk tpos) (.Call (.Name "zip" p) [e, e2, e3] [] pos) (rdI X.K (dZip dA)) :=
  piI (pi_zip3 hg hm ha (starE hs) (starEs_any (by simp [hs2, hs3])) fun _ _ _ h => rdA_len h1 h) fun _ _ _ => rd_zip
def dZipn (dA : Env → Store → R (List Val)) : Env → Store → R Itv := fun ρ S => bnd (dA ρ S) fun vs S1 => match mapO (fun v => srcOf v S1) vs with
  | some ss => some (.zipn ss, S1)
  | none => none
theorem rd_zipn {K : PySem.W.Frag} {σ : L2.St} {H : Hp} {R : It → Hp → Prop} (h : rdI K (dZipn dA) σ H R) : iZipF K (rdA K dA) σ H R := by
  obtain ⟨ρ, m, S, J, S', re, rs, h, k⟩ := h
  obtain ⟨vs, S1, h2, h⟩ := bnd_eq_some h
  split at h
  · rename_i ss es
    cases h
    refine stepA re rs h2 fun xs m1 H1 e1 s1 r1 re1 => ?_
    obtain ⟨ps, rfl, hs, hq⟩ := srcs_of s1 r1 es
    exact ⟨ps, rfl, hq, k _ m1 H1 e1 s1 (it_zipn hs)⟩
  · cases h
theorem i_zipn2 {nm : Str} (hg : Gl X "zip") (hm : X.mg "zip" = none) (ha : PA X [e, e2] (rdA X.K dA)) (hs : plainE e = true) (hs2 : plainE e2 = true) (h1 : ∀ ρ S vs S1, dA ρ S = some (vs, S1) → vs.length = 2) :
    PI X (.Name nm tpos) (.Call (.Name "zip" p) [e, e2] [] pos) (rdI X.K (dZipn dA)) :=
  piI (pi_zip2F hg hm ha (starE hs) (starEs_any (by simp [hs2])) fun _ _ _ h => rdA_len h1 h) fun _ _ _ => rd_zipn
theorem i_zipn3 {nm : Str} (hg : Gl X "zip") (hm : X.mg "zip" = none) (ha : PA X [e, e2, e3] (rdA X.K dA)) (hs : plainE e = true) (hs2 : plainE e2 = true) (hs3 : plainE e3 = true) (h1 : ∀ ρ S vs S1, dA ρ S = some (vs, S1) → vs.length = 3) :
    PI X (.Name nm tpos) (.Call (.Name "zip" p) [e, e2, e3] [] pos) (rdI X.K (dZipn dA)) :=
  piI (pi_zip3F hg hm ha (starE hs) (starEs_any (by simp [hs2, hs3])) fun _ _ _ h => rdA_len h1 h) fun _ _ _ => rd_zipn
end

/-! ### targets -/
section
variable {X : Cx} {a e o i : Expr} {es : List Expr} {pos p : Pos} {da db : Env → Store → R Val}
theorem g_slot {j : Nat} {x : Str} (hN : X.N.Nodup) (hi : X.N[j]? = some x) (hx : Loc X.env.scope x) (hf : X.fn x = true ∨ X.env.scope.names.lookup x = some .local) :
    PG X (.Name x pos) (rdG X.K [j] fun v ρ S => some (ρ.set j (some v), S)) := by
  refine pgI (pg_name hN hi hx hf) ?_
  rintro y σ H Q ⟨ρ, m, S, v, ρ', S', re, rs, rv, h, k⟩
  cases h
  refine k _ m H (.refl _ _) rs (re.set j rv) ⟨by simp, fun i hi => ?_⟩
  rw [List.getElem?_set_ne]
  intro q
  exact hi (by simp [q])
theorem gs_nil : PGs X [] (rdGs X.K [] fun vs ρ S => match vs with | [] => some (ρ, S) | _ => none) := by
  refine pgsI pgs_nil ?_
  rintro xs σ H Q ⟨ρ, m, S, vs, ρ', S', re, rs, rv, h, k⟩
  cases rv with
  | nil =>
    cases h
    exact ⟨rfl, k _ m H (.refl _ _) rs re (.refl _ _)⟩
  | cons _ _ => cases h
theorem asgE {e : Expr} {es : List Expr} {env : PySem.Env} (h : plainE e = true) : assignEach (e :: es) env = (false, assign e env) :: assignEach es env := by
  cases e <;> first | rfl | cases h
theorem asgE_len {env : PySem.Env} : ∀ {es : List Expr}, es.all plainE = true → (assignEach es env).length = es.length ∧ (assignEach es env).findIdx? (·.1) = none
  | [], _ => ⟨rfl, rfl⟩
  | e :: es, h => by
    simp only [List.all_cons, Bool.and_eq_true] at h
    obtain ⟨h1, h2⟩ := asgE_len (env := env) h.2
    rw [asgE h.1]
    exact ⟨by simp [h1], by simp [List.findIdx?_cons, h2]⟩
theorem gs_cons {ws ws' : List Nat} {d : Val → Env → Store → R Env} {d' : List Val → Env → Store → R Env} (h1 : PG X e (rdG X.K ws d)) (h2 : PGs X es (rdGs X.K ws' d')) (hs : plainE e = true) :
    PGs X (e :: es) (rdGs X.K (ws ++ ws') fun vs ρ S => match vs with | v :: vs => bnd (d v ρ S) fun ρ1 S1 => d' vs ρ1 S1 | [] => none) := by
  refine pgsI (pgs_cons h1 h2 (by rw [asgE hs]; rfl)) ?_
  rintro xs σ H Q ⟨ρ, m, S, vs, ρ', S', re, rs, rv, h, k⟩
  cases rv with
  | nil => cases h
  | @cons v vs x xs r1 r2 =>
    obtain ⟨ρ1, S1, h1, h⟩ := bnd_eq_some h
    exact ⟨x, xs, rfl, ρ, m, S, v, ρ1, S1, re, rs, r1, h1, fun σ1 m1 H1 e1 s1 re1 c1 => ⟨ρ1, m1, S1, vs, ρ', S', re1, s1, r2.mono e1, h, fun σ2 m2 H2 e2 s2 re2 c2 => k σ2 m2 H2 (e1.trans e2) s2 re2 (c1.trans c2)⟩⟩
theorem g_tup {ws : List Nat} {k : Nat} {d : List Val → Env → Store → R Env} (hc : X.calm = true) (h : PGs X es (rdGs X.K ws d)) (hs : es.all plainE = true) (hl : ∀ vs ρ S r, d vs ρ S = some r → vs.length = es.length) :
    PG X (.Tuple es k pos) (rdG X.K ws fun v ρ S => match v with
      | .tup vs => d vs ρ S
      | .ref n => match S[n]? with
        | some (.lst _ vs) => d vs ρ S
        | _ => none
      | _ => none) := by
  obtain ⟨l1, l2⟩ := asgE_len (env := X.env) hs
  have h1 := pg_tup (k := k) (pos := pos) hc h l1 l2
  have h2 := pg_unl (k := k) (pos := pos) hc h l1 l2
  have both : PG X (.Tuple es k pos) (fun v σ H Q => gTup X.K es.length (rdGs X.K ws d) v σ H Q ∨ gUnl X.K es.length (rdGs X.K ws d) v σ H Q) :=
    ⟨fun pins s σ H v u Q I r q => q.elim (h1.run pins s σ H v u Q I r) (h2.run pins s σ H v u Q I r)⟩
  refine pgI both ?_
  rintro x σ H Q ⟨ρ, m, S, v, ρ', S', re, rs, rv, h, kk⟩
  cases v with
  | tup vs =>
    cases rv with
    | @tup _ a ys hb r2 => exact .inl ⟨a, ys, rfl, SqT.of hb, by rw [← r2.length]; exact hl _ _ _ _ h, ρ, m, S, vs, ρ', S', re, rs, r2, h, kk⟩
  | ref n =>
    dsimp only at h
    split at h
    · rename_i lk vs e
      cases rv with
      | @ref _ a hm =>
        obtain ⟨ys, hq, r2⟩ := (rs.at e hm).sq
        exact .inr ⟨a, ys, rfl, hq, by rw [← r2.length]; exact hl _ _ _ _ h, ρ, m, S, vs, ρ', S', re, rs, r2, h, kk⟩
    · cases h
  | _ => cases h
/-- o[i] = v by values -/
def rSet (K : PySem.W.Frag) : TSet := fun o i v H Q => ∃ m S a b w S', RS K m S H ∧ RV m H a o ∧ RV m H b i ∧ RV m H w v ∧ setV a b w S = some S' ∧ ∀ H', Ext m H m H' → RS K m S' H' → Q H'
theorem ok_set (hu : X.A.units + 1 < cLine) : PSet X (rSet X.K) := by
  intro pins s σ H o i v ov iv u Q I ro ri rv h
  obtain ⟨m, S, a, b, w, S', rs, ra, rb, rw', h, k⟩ := h
  cases a with
  | ref n =>
    cases ra with
    | @ref _ ad hm =>
      simp only [setV] at h
      split at h
      · rename_i xs e
        split at h
        · rename_i kx
          split at h
          · rename_i j ej
            cases h
            obtain ⟨ys, hy, ry⟩ := rs.at e hm
            cases rb
            refine set_list pins s σ H _ _ v ov iv u Q I ro ri rv ⟨ad, ys, kx, j, rfl, rfl, hy, by rw [← ry.length]; exact ej, ?_⟩
            have e1 : Ext m H m (upd H ad (.lst (ys.set j v))) := ext_write (rs.n0 e rfl) hm ⟨_, hy⟩ fun zs z => by rw [hy] at z; cases z
            exact k _ e1 (rs.write e hm rfl ⟨_, upd_same, (ry.set j rw').mono e1⟩)
          · cases h
        · cases h
      · rename_i ob _ e
        split at h
        · rename_i ob' eb
          cases h
          cases ro
          exact put_dict hu I rs hm e eb rb ri rw' rv fun H' s' s2 e2 I2 => ⟨H', I2, k H' e2 s2⟩
        · cases h
      · cases h
  | _ => cases h
theorem g_sub (hu : X.A.units + 1 < cLine) (ho : PE X o (rdE X.K da)) (hi : PE X i (rdE X.K db)) (hs : noSlice i = true) :
    PG X (.Subscript o i pos) (rdG X.K [] fun v ρ S => bnd (da ρ S) fun x S1 => bnd (db ρ S1) fun y S2 => match setV x y v S2 with | some S3 => some (ρ, S3) | none => none) := by
  refine pgI (pg_sub ho hi (ok_set hu) (fun v => by cases i <;> first | rfl | cases hs)) ?_
  rintro z σ H Q ⟨ρ, m, S, v, ρ', S', re, rs, rv, h, k⟩
  obtain ⟨a, S1, h1, h⟩ := bnd_eq_some h
  obtain ⟨b, S2, h2, h⟩ := bnd_eq_some h
  split at h
  · rename_i S3 e3
    cases h
    exact step1 re rs h1 fun x m1 H1 e1 s1 r1 re1 => step1 re1 s1 h2 fun y m2 H2 e2 s2 r2 re2 =>
      ⟨m2, S2, a, b, v, _, s2, r1.mono e2, r2, rv.mono (e1.trans e2), e3, fun H' e4 s4 => k σ m2 H' (e1.trans (e2.trans e4)) s4 (re2.mono e4) (.refl _ _)⟩
  · cases h
end
end Rf

/-! Rf7: comprehensions, dict displays, statements. -/
namespace Rf
open PySem PySem.Spec PyProof.Rows L2

/-! ### comprehensions -/
def dTurn (own : List Nat) (dg : Val → Env → Store → R Env) (dc de : Env → Store → R Val) (ρ : Env) : Val → Store → R (Option Val) := fun v S2 => bnd (dg v (wipeE ρ own) S2) fun ρ' S3 => bnd (dc ρ' S3) fun b S4 => match b with
  | .bl true => bnd (de ρ' S4) fun y S5 => some (some y, S5)
  | .bl false => some (none, S4)
  | _ => none
def dLc (own : List Nat) (dI : Env → Store → R Itv) (dg : Val → Env → Store → R Env) (dc de : Env → Store → R Val) : Env → Store → R Val := fun ρ S => bnd (dI ρ S) fun J S1 =>
  bnd (lcGo (dTurn own dg dc de ρ) J (itLen J S1 + 1) 0 0 S1) fun ys S2 => some (.ref S2.length, S2 ++ [.lst false ys])
theorem wipe_get (τ : L2.St) (us : List Nat) (i : Nat) : (L2.wipe τ us)[i]? = if i ∈ us ∧ i < τ.length then some none else τ[i]? := by
  induction us generalizing i with
  | nil => simp [L2.wipe]
  | cons u us ih =>
    unfold L2.wipe
    rw [List.getElem?_set, ih, L2.wipe_length]
    by_cases e : u = i
    · subst e
      by_cases hl : u < τ.length
      · simp [hl]
      · simp [hl]
    · have e' : ¬ i = u := fun q => e q.symm
      simp [e, e']
theorem wipe_wipe (τ : L2.St) (us : List Nat) : L2.wipe (L2.wipe τ us) us = L2.wipe τ us := by
  refine List.ext_getElem? fun i => ?_
  rw [wipe_get, wipe_get, L2.wipe_length]
  split
  · rfl
  · rfl
section
variable {K : PySem.W.Frag} {own ws : List Nat} {dI : Env → Store → R Itv} {dg : Val → Env → Store → R Env} {dc de : Env → Store → R Val} {tt : TT}
theorem lc_loop {ρ : Env} {σ : L2.St} {m1 : List Addr} {H1 : Hp} {S1 : Store} {D : Addr} {it : It} {J : Itv} {Q : VK} {fu0 : Nat} {ysF : List Val} {SF : Store} (hw : ∀ i ∈ ws, i ∈ own) (ht : ∀ σ H Q, rdT K dc σ H Q → tt σ H Q)
    (re1 : RE m1 H1 ρ σ) (s1 : RS K m1 S1 H1) (hD : H1 D = none) (io : ItOk K m1 H1 it J) (hr : lcGo (dTurn own dg dc de ρ) J fu0 0 0 S1 = some (ysF, SF)) (k : K1 K m1 H1 (.ref SF.length) (SF ++ [.lst false ysF]) Q) :
    ∃ W : Nat → Nat → Hp → Prop, (∃ m, W 0 m (upd H1 D (.lst []))) ∧ ∀ i m H, W i m H →
      (it.stop i H ∧ Q (.ref D) H) ∨ (it.go i H ∧ ∃ Nx : Hp → Prop, (∀ H', Nx H' → ∃ m', m' < m ∧ W (i + 1) m' H') ∧ ∀ x H', it.yld i H x H' → rdG K ws dg x (wipe σ own) H' fun σ2 H2 => wipe σ2 own = wipe σ own ∧ tt σ2 H2 fun b H3 =>
        if b = true then rdE K de σ2 H3 fun y H4 => ∃ acc, H4 D = some (.lst acc) ∧ acc.length < sizeLine ∧ Nx (upd H4 D (.lst (acc ++ [y]))) else Nx H3) := by
  refine ⟨fun i fu H => ∃ m2 S2 acc accV ys, Side K m1 H1 m2 S2 H D (.lst accV) ∧ RVs m2 H acc accV ∧ lcGo (dTurn own dg dc de ρ) J fu i acc.length S2 = some (ys, SF) ∧ ysF = acc ++ ys, ⟨fu0, m1, S1, [], [], ysF, Side.start s1 hD, .nil, hr, rfl⟩, ?_⟩
  rintro i fu H ⟨m2, S2, acc, accV, ys, sd, ra, hl, rfl⟩
  cases fu with
  | zero => cases hl
  | succ fu =>
    simp only [lcGo] at hl
    split at hl
    · cases hl
    · rename_i e
      cases hl
      obtain ⟨j1, _⟩ := io i m2 H _ sd.ext sd.rs
      obtain ⟨a1, a2⟩ := sd.adopt (o := .lst false acc) hD (fun _ _ z => nomatch z) ⟨accV, sd.at_, ra.grow [D] (.one sd.at_ fun _ _ z => nomatch z)⟩
      refine .inl ⟨j1 e, k _ _ _ a2 ?_ (.ref ?_)⟩
      · rw [List.append_nil]; exact a1
      · rw [← sd.rs.len, List.getElem?_concat_length]
    · rename_i v e
      obtain ⟨o, S3, hf, hl⟩ := bnd_eq_some hl
      obtain ⟨_, j2⟩ := io i m2 H S2 sd.ext sd.rs
      obtain ⟨j3, j4⟩ := j2 v e
      refine .inr ⟨j3, _, fun H' h => ⟨fu, Nat.lt_succ_self _, h⟩, fun x H' hy => ?_⟩
      obtain ⟨e1, s2, rv⟩ := j4 x H' hy
      have sd1 := sd.go e1 s2
      have ra1 := ra.mono e1
      unfold dTurn at hf
      obtain ⟨ρ', Sa, hg, hf⟩ := bnd_eq_some hf
      obtain ⟨b, Sb, hc, hf⟩ := bnd_eq_some hf
      have reW : RE m2 H' (wipeE ρ own) (wipe σ own) := (re1.mono sd1.ext).wipe own
      refine ⟨_, m2, S2, v, ρ', Sa, reW, s2, rv, hg, fun σ2 m3 H3 e3 s3 re3 c3 => ⟨?_, ht _ _ _ ?_⟩⟩
      · rw [c3.wipe hw, wipe_wipe]
      · have sd3 := sd1.go e3 s3
        have ra3 := ra1.mono e3
        match b, hc, hf with
        | .bl false, hc, hf =>
          cases hf
          refine stepT re3 s3 hc fun m4 H4 e4 s4 re4 => ?_
          rw [if_neg Bool.false_ne_true]
          exact ⟨m4, _, acc, accV, ys, sd3.go e4 s4, ra3.mono e4, hl, rfl⟩
        | .bl true, hc, hf =>
          obtain ⟨y, Sc, hy2, hf⟩ := bnd_eq_some hf
          cases hf
          dsimp only at hl
          split at hl
          · rename_i hlt
            obtain ⟨zs, S6, hl, h6⟩ := bnd_eq_some hl
            cases h6
            refine stepT re3 s3 hc fun m4 H4 e4 s4 re4 => ?_
            rw [if_pos rfl]
            refine step1 re4 s4 hy2 fun z m5 H5 e5 s5 r5 re5 => ?_
            have sd5 := (sd3.go e4 s4).go e5 s5
            have ra5 := (ra3.mono e4).mono e5
            refine ⟨accV, sd5.at_, by rw [← ra5.length]; exact hlt, m5, _, acc ++ [y], accV ++ [z], zs, sd5.write hD (fun _ _ q => nomatch q) (fun _ q => nomatch q), ?_, ?_, by simp⟩
            · refine (ra5.append (.cons r5 .nil)).heap fun a ws' f q => ?_
              rw [upd_ne fun e => by
                rw [e, sd5.at_] at q
                cases q
                rcases f with ⟨_, z⟩ | ⟨_, _, z⟩ <;> cases z]; exact q
            · rw [List.length_append]; exact hl
          · cases hl
theorem rd_lc (hw : ∀ i ∈ ws, i ∈ own) (ht : ∀ σ H Q, rdT K dc σ H Q → tt σ H Q) {σ : L2.St} {H : Hp} {Q : VK} (h : rdE K (dLc own dI dg dc de) σ H Q) : tLc (rdI K dI) (rdG K ws dg) tt (rdE K de) own σ H Q := by
  obtain ⟨ρ, m, S, v, S', re, rs, h, k⟩ := h
  obtain ⟨J, S1, h1, h⟩ := bnd_eq_some h
  obtain ⟨ys, S2, h2, h⟩ := bnd_eq_some h
  cases h
  exact ⟨ρ, m, S, J, S1, re, rs, h1, fun it m1 H1 e1 s1 io D hD => lc_loop hw ht (re.mono e1) s1 hD io h2 (k.mono e1)⟩
/-! a dict's comprehension -/
def dPair (dk dv : Env → Store → R Val) : Env → Store → R Val := fun ρ S => bnd (dk ρ S) fun x S1 => bnd (dv ρ S1) fun y S2 => some (.tup [x, y], S2)
def dDc (own : List Nat) (dI : Env → Store → R Itv) (dg : Val → Env → Store → R Env) (dc dk dv : Env → Store → R Val) : Env → Store → R Val := fun ρ S => bnd (dI ρ S) fun J S1 =>
  bnd (lcGo (dTurn own dg dc (dPair dk dv) ρ) J (itLen J S1 + 1) 0 0 S1) fun ys S2 => match mapO pairV ys with
    | some kvs => some (.ref S2.length, S2 ++ [.dk false (mergeV [] kvs)])
    | none => none
theorem dc_loop {dk dv : Env → Store → R Val} {ρ : Env} {σ : L2.St} {m1 : List Addr} {H1 : Hp} {S1 : Store} {D : Addr} {it : It} {J : Itv} {Q : VK} {fu0 : Nat} {ysF : List Val} {kvsF : List (Key × Val)} {SF : Store} (hw : ∀ i ∈ ws, i ∈ own) (ht : ∀ σ H Q, rdT K dc σ H Q → tt σ H Q)
    (re1 : RE m1 H1 ρ σ) (s1 : RS K m1 S1 H1) (hD : H1 D = none) (io : ItOk K m1 H1 it J) (hr : lcGo (dTurn own dg dc (dPair dk dv) ρ) J fu0 0 0 S1 = some (ysF, SF)) (hp : mapO pairV ysF = some kvsF) (k : K1 K m1 H1 (.ref SF.length) (SF ++ [.dk false (mergeV [] kvsF)]) Q) :
    ∃ W : Nat → Nat → Hp → Prop, (∃ m, W 0 m (upd H1 D (.dK []))) ∧ ∀ i m H, W i m H →
      (it.stop i H ∧ Q (.ref D) H) ∨ (it.go i H ∧ ∃ Nx : Hp → Prop, (∀ H', Nx H' → ∃ m', m' < m ∧ W (i + 1) m' H') ∧ ∀ x H', it.yld i H x H' → rdG K ws dg x (wipe σ own) H' fun σ2 H2 => wipe σ2 own = wipe σ own ∧ tt σ2 H2 fun b H3 =>
        if b = true then rdE K dk σ2 H3 fun y H4 => rdE K dv σ2 H4 fun z H5 => ∃ kvs k, y = kV k ∧ H5 D = some (.dK kvs) ∧ kvs.length < sizeLine ∧ Nx (upd H5 D (.dK (putK kvs k z))) else Nx H3) := by
  refine ⟨fun i fu H => ∃ m2 S2 acc accV ys kvs n, Side K m1 H1 m2 S2 H D (.dK accV) ∧ RK m2 H acc accV ∧ lcGo (dTurn own dg dc (dPair dk dv) ρ) J fu i n S2 = some (ys, SF) ∧ mapO pairV ys = some kvs ∧ mergeV [] kvsF = mergeV acc kvs ∧ accV.length ≤ n, ⟨fu0, m1, S1, [], [], ysF, kvsF, 0, Side.start s1 hD, .nil, hr, hp, rfl, Nat.le_refl _⟩, ?_⟩
  rintro i fu H ⟨m2, S2, acc, accV, ys, kvs, n, sd, ra, hl, hpk, hF, hln⟩
  cases fu with
  | zero => cases hl
  | succ fu =>
    simp only [lcGo] at hl
    split at hl
    · cases hl
    · rename_i e
      cases hl
      cases hpk
      obtain ⟨j1, _⟩ := io i m2 H _ sd.ext sd.rs
      obtain ⟨a1, a2⟩ := sd.adopt (o := .dk false acc) hD (fun _ _ z => nomatch z) ⟨accV, sd.at_, ra.grow [D] (.one sd.at_ fun _ _ z => nomatch z)⟩
      refine .inl ⟨j1 e, k _ _ _ a2 ?_ (.ref ?_)⟩
      · rw [hF]; exact a1
      · rw [← sd.rs.len, List.getElem?_concat_length]
    · rename_i v e
      obtain ⟨o, S3, hf, hl⟩ := bnd_eq_some hl
      obtain ⟨_, j2⟩ := io i m2 H S2 sd.ext sd.rs
      obtain ⟨j3, j4⟩ := j2 v e
      refine .inr ⟨j3, _, fun H' h => ⟨fu, Nat.lt_succ_self _, h⟩, fun x H' hy => ?_⟩
      obtain ⟨e1, s2, rv⟩ := j4 x H' hy
      have sd1 := sd.go e1 s2
      have ra1 := ra.mono e1
      unfold dTurn at hf
      obtain ⟨ρ', Sa, hg, hf⟩ := bnd_eq_some hf
      obtain ⟨b, Sb, hc, hf⟩ := bnd_eq_some hf
      have reW : RE m2 H' (wipeE ρ own) (wipe σ own) := (re1.mono sd1.ext).wipe own
      refine ⟨_, m2, S2, v, ρ', Sa, reW, s2, rv, hg, fun σ2 m3 H3 e3 s3 re3 c3 => ⟨?_, ht _ _ _ ?_⟩⟩
      · rw [c3.wipe hw, wipe_wipe]
      · have sd3 := sd1.go e3 s3
        have ra3 := ra1.mono e3
        match b, hc, hf with
        | .bl false, hc, hf =>
          cases hf
          refine stepT re3 s3 hc fun m4 H4 e4 s4 re4 => ?_
          rw [if_neg Bool.false_ne_true]
          exact ⟨m4, _, acc, accV, ys, kvs, n, sd3.go e4 s4, ra3.mono e4, hl, hpk, hF, hln⟩
        | .bl true, hc, hf =>
          obtain ⟨y, Sc, hy2, hf⟩ := bnd_eq_some hf
          cases hf
          unfold dPair at hy2
          obtain ⟨yk, Sd, hk2, hy2⟩ := bnd_eq_some hy2
          obtain ⟨yv, Se, hv2, hy2⟩ := bnd_eq_some hy2
          cases hy2
          dsimp only at hl
          split at hl
          · rename_i hlt
            obtain ⟨zs, S6, hl, h6⟩ := bnd_eq_some hl
            cases h6
            obtain ⟨kv, kvs2, hp1, hp2, rfl⟩ := mapO_cons hpk
            simp only [pairV] at hp1
            split at hp1
            · rename_i key ek
              cases hp1
              refine stepT re3 s3 hc fun m4 H4 e4 s4 re4 => ?_
              rw [if_pos rfl]
              refine step1 re4 s4 hk2 fun zk m5 H5 e5 s5 r5 re5 => ?_
              refine step1 re5 s5 hv2 fun zv m6 H6 e6 s6 r6 re6 => ?_
              have sd6 := ((sd3.go e4 s4).go e5 s5).go e6 s6
              have ra6 := ((ra3.mono e4).mono e5).mono e6
              have hl2 := length_putK accV key zv
              refine ⟨accV, key, keyOf_rel ek r5, sd6.at_, Nat.lt_of_le_of_lt hln hlt, m6, _, putV acc key yv, putK accV key zv, zs, kvs2, n + 1, sd6.write hD (fun _ _ q => nomatch q) (fun _ q => nomatch q), ?_, hl, hp2, hF, by omega⟩
              refine (RK.put r6 ra6).heap fun a ws' f q => ?_
              rw [upd_ne fun e => by
                rw [e, sd6.at_] at q
                cases q
                rcases f with ⟨_, z⟩ | ⟨_, _, z⟩ <;> cases z]; exact q
            · cases hp1
          · cases hl
theorem rd_dc {dk dv : Env → Store → R Val} (hw : ∀ i ∈ ws, i ∈ own) (ht : ∀ σ H Q, rdT K dc σ H Q → tt σ H Q) {σ : L2.St} {H : Hp} {Q : VK} (h : rdE K (dDc own dI dg dc dk dv) σ H Q) : tDc (rdI K dI) (rdG K ws dg) tt (rdE K dk) (rdE K dv) own σ H Q := by
  obtain ⟨ρ, m, S, v, S', re, rs, h, k⟩ := h
  obtain ⟨J, S1, h1, h⟩ := bnd_eq_some h
  obtain ⟨ys, S2, h2, h⟩ := bnd_eq_some h
  split at h
  · rename_i kvs hp
    cases h
    exact ⟨ρ, m, S, J, S1, re, rs, h1, fun it m1 H1 e1 s1 io D hD => dc_loop hw ht (re.mono e1) s1 hD io h2 hp (k.mono e1)⟩
  · cases h
end

section
variable {X : Cx} {elt tg iter c : Expr} {ifs : List Expr} {scope : Scope} {own' : List (Str × Nat)} {own ws : List Nat} {pos spos py : Pos} {dI : Env → Store → R Itv} {dg : Val → Env → Store → R Env} {dc de : Env → Store → R Val}
/-- what a comprehension needs, by its parts -/
structure LcOk (X : Cx) (elt tg iter : Expr) (ifs : List Expr) (scope : Scope) (own' : List (Str × Nat)) (own ws : List Nat) (dI : Env → Store → R Itv) (dg : Val → Env → Store → R Env) (dc de : Env → Store → R Val) : Prop where
  calm : X.calm = true
  nd : X.N.Nodup
  it : PI X tg iter (rdI X.K dI)
  blk : BlkOk X.N X.env.scope scope own'
  ow : own'.map (·.2) = own
  wo : ∀ i ∈ ws, i ∈ own
  tg : ∀ (s : Shared) (H : Hp) (C : Addr) (cl : List (Str × Addr)) (fp : List Addr), PG (X.blk s H scope (compEnvC scope cl C X.env) fp) tg (rdG X.K ws dg)
  ts : ∃ tt, (∀ σ H Q, rdT X.K dc σ H Q → tt σ H Q) ∧ ∀ (s : Shared) (H : Hp) (C : Addr) (cl : List (Str × Addr)) (fp : List Addr), PTs (X.blk s H scope (compEnvC scope cl C X.env) fp) ifs tt
  el : ∀ (s : Shared) (H : Hp) (C : Addr) (cl : List (Str × Addr)) (fp : List Addr), PE (X.blk s H scope (compEnvC scope cl C X.env) fp) elt (rdE X.K de)
  fs : ∀ x, foldedSetIterable iter X.env x = pure x
theorem e_lc (L : LcOk X elt tg iter ifs scope own' own ws dI dg dc de) : PE X (.ListComp elt [⟨tg, iter, ifs, 0⟩] scope pos) (rdE X.K (dLc own dI dg dc de)) := by
  obtain ⟨tt, t1, t2⟩ := L.ts
  refine peI (pe_lc L.calm L.nd L.it L.blk L.tg t2 L.el L.fs) fun σ H Q h => ?_
  rw [L.ow]
  exact rd_lc L.wo t1 h
theorem e_dc {kx vx : Expr} {dk dv : Env → Store → R Val} (L : LcOk X kx tg iter ifs scope own' own ws dI dg dc dk) (hv : ∀ (s : Shared) (H : Hp) (C : Addr) (cl : List (Str × Addr)) (fp : List Addr), PE (X.blk s H scope (compEnvC scope cl C X.env) fp) vx (rdE X.K dv)) :
    PE X (.DictComp kx vx [⟨tg, iter, ifs, 0⟩] scope pos) (rdE X.K (dDc own dI dg dc dk dv)) := by
  obtain ⟨tt, t1, t2⟩ := L.ts
  refine peI (pe_dc L.calm L.nd L.it L.blk L.tg t2 L.el hv L.fs) fun σ H Q h => ?_
  rw [L.ow]
  exact rd_dc L.wo t1 h
theorem dc_true {K : PySem.W.Frag} {σ : L2.St} {H : Hp} {Q : Bool → Hp → Prop} (h : rdT K (fun _ S => some (.bl true, S)) σ H Q) : tYes σ H Q := rdT_bl h

/-! ### statements -/
variable {a b e : Expr} {es : List Expr} {st : Stmt} {sts body : List Stmt} {da db : Env → Store → R Val} {dA : Env → Store → R (List Val)} {f g : Env → Store → R3}
theorem Fin3.mono {K : PySem.W.Frag} {m m1 : List Addr} {H H1 : Hp} {ρ : Env} {S : Store} {D : Ends} {fl : Rf.Flow} (x : Ext m H m1 H1) (h : Fin3 K m H ρ S D fl) : Fin3 K m1 H1 ρ S D fl := by
  cases fl with
  | nx => exact fun σ' m' H' e => h σ' m' H' (x.trans e)
  | bk => exact fun σ' m' H' e => h σ' m' H' (x.trans e)
  | ret v => exact fun y m' H' e => h y m' H' (x.trans e)
def dAsg (da : Env → Store → R Val) (dg : Val → Env → Store → R Env) : Env → Store → R3 := fun ρ S => bnd (da ρ S) fun v S1 => bnd (dg v ρ S1) fun ρ1 S2 => some (.nx, ρ1, S2)
theorem rd_asg {K : PySem.W.Frag} {D : Ends} {σ : L2.St} {H : Hp} (h : rdS K (dAsg da dg) D σ H) : rdE K da σ H fun x H1 => rdG K ws dg x σ H1 D.nx := by
  obtain ⟨ρ, m, S, fl, ρ', S', re, rs, h, k⟩ := h
  obtain ⟨v, S1, h1, h⟩ := bnd_eq_some h
  obtain ⟨ρ1, S2, h2, h⟩ := bnd_eq_some h
  cases h
  exact step1 re rs h1 fun x m1 H1 e1 s1 r1 re1 => ⟨ρ, m1, S1, v, _, _, re1, s1, r1, h2, fun σ2 m2 H2 e2 s2 re2 _ => k σ2 m2 H2 (e1.trans e2) s2 re2⟩
theorem s_asg (he : PE X e (rdE X.K da)) (hg : PG X tg (rdG X.K ws dg)) (hp : plainE tg = true) (hs : swapsWithSole [tg] e pos.line X.env = pure false) (hw : swappedStores [tg] e X.env = pure none) : PS X (.Assign [tg] e pos) (rdS X.K (dAsg da dg)) :=
  psI (ps_asg he hg hs hw (by rw [asgE hp]; rfl)) fun _ _ _ => rd_asg
theorem s_setLc {i : Nat} {y : Str} (L : LcOk X elt tg iter ifs scope own' own ws dI dg dc de) (hy : X.N[i]? = some y) (hyl : X.env.scope.names.lookup y = some .local)
    (hsw : swapsWith (.ListComp elt [⟨tg, iter, ifs, 0⟩] scope pos) (some (.Name y py)) spos.line X.env = pure true) :
    PS X (.Assign [.Name y py] (.ListComp elt [⟨tg, iter, ifs, 0⟩] scope pos) spos) (rdS X.K (dAsg (dLc own dI dg dc de) fun v ρ S => some (ρ.set i (some v), S))) := by
  obtain ⟨tt, t1, t2⟩ := L.ts
  refine psI (ps_setLc L.calm L.nd hy hyl hsw L.it L.blk L.tg t2 L.el L.fs) fun D σ H h => ?_
  have q := rd_asg (ws := [i]) h
  rw [L.ow]
  refine rd_lc L.wo t1 ?_
  obtain ⟨ρ, m, S, v, S', re, rs, h, k⟩ := q
  refine ⟨ρ, m, S, v, S', re, rs, h, fun x m' H' e s r => ?_⟩
  obtain ⟨ρ2, m2, S2, w, ρ', S3, re2, rs2, rv2, h2, k2⟩ := k x m' H' e s r
  cases h2
  refine k2 _ m2 H' (.refl _ _) rs2 (re2.set i rv2) ⟨by simp, fun j hj => ?_⟩
  rw [List.getElem?_set_ne]
  intro q
  exact hj (by simp [q])
theorem s_expr (he : PE X e (rdE X.K da)) (hs : swapsWith e none pos.line X.env = pure false) : PS X (.Expr e pos) (rdS X.K fun ρ S => bnd (da ρ S) fun _ S1 => some (.nx, ρ, S1)) := by
  refine psI (ps_expr he hs) ?_
  rintro D σ H ⟨ρ, m, S, fl, ρ', S', re, rs, h, k⟩
  obtain ⟨v, S1, h1, h⟩ := bnd_eq_some h
  cases h
  exact step1 re rs h1 fun x m1 H1 e1 s1 r1 re1 => k σ m1 H1 e1 s1 re1
theorem s_ret (he : PE X e (rdE X.K da)) : PS X (.Return (some e) pos) (rdS X.K fun ρ S => bnd (da ρ S) fun v S1 => some (.ret v, ρ, S1)) := by
  refine psI (ps_ret he) ?_
  rintro D σ H ⟨ρ, m, S, fl, ρ', S', re, rs, h, k⟩
  obtain ⟨v, S1, h1, h⟩ := bnd_eq_some h
  cases h
  exact step1 re rs h1 fun x m1 H1 e1 s1 r1 re1 => k x m1 H1 e1 s1 r1
theorem s_retN : PS X (.Return none pos) (rdS X.K fun ρ S => some (.ret .non, ρ, S)) := by
  refine psI ps_retN ?_
  rintro D σ H ⟨ρ, m, S, fl, ρ', S', re, rs, h, k⟩
  cases h
  exact k .non m H (.refl _ _) rs .non
theorem s_pass : PS X (.Pass pos) (rdS X.K fun ρ S => some (.nx, ρ, S)) := by
  refine psI ps_pass ?_
  rintro D σ H ⟨ρ, m, S, fl, ρ', S', re, rs, h, k⟩
  cases h
  exact k σ m H (.refl _ _) rs re
theorem s_break : PS X (.Break pos) (rdS X.K fun ρ S => some (.bk, ρ, S)) := by
  refine psI ps_break ?_
  rintro D σ H ⟨ρ, m, S, fl, ρ', S', re, rs, h, k⟩
  cases h
  exact k σ m H (.refl _ _) rs re
theorem s_if (hc : PT X c (rdT X.K dc)) (ha : PSs X sts (rdS X.K f)) (hb : PSs X body (rdS X.K g)) : PS X (.If c sts body pos) (rdS X.K fun ρ S => bnd (dc ρ S) fun x S1 => match x with | .bl true => f ρ S1 | .bl false => g ρ S1 | _ => none) := by
  refine psI (ps_if hc ha hb) ?_
  rintro D σ H ⟨ρ, m, S, fl, ρ', S', re, rs, h, k⟩
  obtain ⟨v, S1, h1, h⟩ := bnd_eq_some h
  match v, h1, h with
  | .bl true, h1, h => exact stepT re rs h1 fun m1 H1 e1 s1 re1 => ⟨ρ, m1, S1, fl, ρ', S', re1, s1, h, k.mono e1⟩
  | .bl false, h1, h => exact stepT re rs h1 fun m1 H1 e1 s1 re1 => by rw [if_neg Bool.false_ne_true]; exact ⟨ρ, m1, S1, fl, ρ', S', re1, s1, h, k.mono e1⟩
theorem s_for (hp : PassesOwn (model X.prog X.w) X.A X.env X.xe) (hc : X.calm = true) (hi : PI X tg iter (rdI X.K dI)) (hg : PG X tg (rdG X.K ws dg)) (hb : PSs X body (rdS X.K f)) (hs : ∀ x, foldedSetIterable iter X.env x = pure x) :
    PS X (.For tg iter body [] pos) (rdS X.K fun ρ S => bnd (dI ρ S) fun J S1 => loopGo dg f J (itLen J S1 + 1) 0 ρ S1) := by
  refine psI (ps_for hp hc hi hg hb hs) ?_
  rintro D σ H ⟨ρ, m, S, fl, ρ', S', re, rs, h, k⟩
  obtain ⟨J, S1, h1, h⟩ := bnd_eq_some h
  refine ⟨ρ, m, S, J, S1, re, rs, h1, fun it m1 H1 e1 s1 io => ?_⟩
  refine ⟨fun i fu σ H => ∃ ρ m S f' ρ' S', Ext m1 H1 m H ∧ RE m H ρ σ ∧ RS X.K m S H ∧ loopGo dg f J fu i ρ S = some (f', ρ', S') ∧ Fin3 X.K m H ρ' S' D f', ⟨_, ρ, m1, S1, fl, ρ', S', .refl _ _, re.mono e1, s1, h, k.mono e1⟩, ?_⟩
  rintro i fu σ2 H2 ⟨ρ2, m2, S2, f2, ρ3, S3, e2, re2, rs2, h2, k2⟩
  cases fu with
  | zero => cases h2
  | succ fu =>
    simp only [loopGo] at h2
    obtain ⟨j1, j2⟩ := io i m2 H2 S2 e2 rs2
    split at h2
    · cases h2
    · rename_i e
      cases h2
      exact .inl ⟨j1 e, k2 σ2 m2 H2 (.refl _ _) rs2 re2⟩
    · rename_i v e
      obtain ⟨j3, j4⟩ := j2 v e
      obtain ⟨ρ4, S4, hg4, h2⟩ := bnd_eq_some h2
      refine .inr ⟨j3, _, fun σ' H' h => ⟨fu, Nat.lt_succ_self _, h⟩, fun x H3 hy => ?_⟩
      obtain ⟨e3, s3, r3⟩ := j4 x H3 hy
      refine ⟨ρ2, m2, S2, v, ρ4, S4, re2.mono e3, s3, r3, hg4, fun σ4 m4 H4 e4 s4 re4 _ => ?_⟩
      have e24 := e3.trans e4
      split at h2
      · cases h2
      · rename_i ρ5 S5 hb5
        exact ⟨ρ4, m4, S4, .nx, ρ5, S5, re4, s4, hb5, fun σ6 m6 H6 e6 s6 re6 => ⟨ρ5, m6, S5, f2, ρ3, S3, e2.trans (e24.trans e6), re6, s6, h2, k2.mono (e24.trans e6)⟩⟩
      · rename_i ρ5 S5 hb5
        cases h2
        exact ⟨ρ4, m4, S4, .bk, ρ3, S3, re4, s4, hb5, fun σ6 m6 H6 e6 s6 re6 => k2 σ6 m6 H6 (e24.trans e6) s6 re6⟩
      · rename_i w ρ5 S5 hb5
        cases h2
        exact ⟨ρ4, m4, S4, .ret w, ρ3, S3, re4, s4, hb5, fun y m6 H6 e6 s6 ry => k2 y m6 H6 (e24.trans e6) s6 ry⟩
theorem s_while {fu : Nat} (hp : PassesOwn (model X.prog X.w) X.A X.env X.xe) (hc : PT X c (rdT X.K dc)) (hb : PSs X body (rdS X.K f)) : PS X (.While c body [] pos) (rdS X.K fun ρ S => whileGo dc f fu ρ S) := by
  refine psI (ps_while hp hc hb) ?_
  rintro D σ H ⟨ρ, m, S, fl, ρ', S', re, rs, h, k⟩
  refine ⟨fun fu σ H => ∃ ρ m S f' ρ' S', RE m H ρ σ ∧ RS X.K m S H ∧ whileGo dc f fu ρ S = some (f', ρ', S') ∧ Fin3 X.K m H ρ' S' D f', ⟨fu, ρ, m, S, fl, ρ', S', re, rs, h, k⟩, ?_⟩
  rintro fu σ2 H2 ⟨ρ2, m2, S2, f2, ρ3, S3, re2, rs2, h2, k2⟩
  cases fu with
  | zero => cases h2
  | succ fu =>
    simp only [whileGo] at h2
    obtain ⟨v, S4, h4, h2⟩ := bnd_eq_some h2
    match v, h4, h2 with
    | .bl true, h4, h2 =>
      refine stepT re2 rs2 h4 fun m4 H4 e4 s4 re4 => ?_
      rw [if_pos rfl]
      refine ⟨_, fun σ' H' h => ⟨fu, Nat.lt_succ_self _, h⟩, ?_⟩
      dsimp only at h2
      split at h2
      · cases h2
      · rename_i ρ5 S5 hb5
        exact ⟨ρ2, m4, S4, .nx, ρ5, S5, re4, s4, hb5, fun σ6 m6 H6 e6 s6 re6 => ⟨ρ5, m6, S5, f2, ρ3, S3, re6, s6, h2, k2.mono (e4.trans e6)⟩⟩
      · rename_i ρ5 S5 hb5
        cases h2
        exact ⟨ρ2, m4, S4, .bk, ρ3, S3, re4, s4, hb5, fun σ6 m6 H6 e6 s6 re6 => k2 σ6 m6 H6 (e4.trans e6) s6 re6⟩
      · rename_i w ρ5 S5 hb5
        cases h2
        exact ⟨ρ2, m4, S4, .ret w, ρ3, S3, re4, s4, hb5, fun y m6 H6 e6 s6 ry => k2 y m6 H6 (e4.trans e6) s6 ry⟩
    | .bl false, h4, h2 =>
      refine stepT re2 rs2 h4 fun m4 H4 e4 s4 re4 => ?_
      rw [if_neg Bool.false_ne_true]
      cases h2
      exact k2 σ2 m4 H4 e4 s4 re4
theorem ss_nil : PSs X [] (rdS X.K fun ρ S => some (.nx, ρ, S)) := by
  refine pssI pss_nil ?_
  rintro D σ H ⟨ρ, m, S, fl, ρ', S', re, rs, h, k⟩
  cases h
  exact k σ m H (.refl _ _) rs re
theorem ss_cons (h1 : PS X st (rdS X.K f)) (h2 : PSs X sts (rdS X.K g)) : PSs X (st :: sts) (rdS X.K fun ρ S => match f ρ S with
    | none => none
    | some (.nx, ρ1, S1) => g ρ1 S1
    | some (.bk, ρ1, S1) => some (.bk, ρ1, S1)
    | some (.ret v, ρ1, S1) => some (.ret v, ρ1, S1)) := by
  refine pssI (pss_cons h1 h2) ?_
  rintro D σ H ⟨ρ, m, S, fl, ρ', S', re, rs, h, k⟩
  dsimp only at h
  split at h
  · cases h
  · rename_i ρ1 S1 e
    exact ⟨ρ, m, S, .nx, ρ1, S1, re, rs, e, fun σ1 m1 H1 e1 s1 re1 => ⟨ρ1, m1, S1, fl, ρ', S', re1, s1, h, k.mono e1⟩⟩
  · rename_i ρ1 S1 e
    cases h
    exact ⟨ρ, m, S, .bk, ρ', S', re, rs, e, k⟩
  · rename_i v ρ1 S1 e
    cases h
    exact ⟨ρ, m, S, .ret v, ρ', S', re, rs, e, k⟩
end
end Rf

/-! Rf8: several names at once, dict displays, what the stores' order asks. -/
namespace Rf
open PySem PySem.Spec PyProof.Rows L2

section
variable {X : Cx} {a b c e tg : Expr} {es : List Expr} {st : Stmt} {da db : Env → Store → R Val} {dA : Env → Store → R (List Val)} {dg : Val → Env → Store → R Env}
theorem s_par {i j : Nat} {x y : Str} {px py pt pos : Pos} {kt k2 : Nat} {pt2 : Pos} (hc : X.calm = true) (hN : X.N.Nodup) (hi : X.N[i]? = some x) (hj : X.N[j]? = some y) (hij : i ≠ j)
    (hx : X.env.scope.names.lookup x = some .local) (hy : X.env.scope.names.lookup y = some .local) (ha : PA X [a, b] (rdA X.K dA))
    (hw : swappedStores [.Tuple [.Name x px, .Name y py] kt pt] (.Tuple [a, b] k2 pt2) X.env = pure (some [x, y])) (hd : ∀ vs ρ S r, dg (.tup vs) ρ S = some r → ∃ v w, vs = [v, w] ∧ r = ((ρ.set i (some v)).set j (some w), S)) :
    PS X (.Assign [.Tuple [.Name x px, .Name y py] kt pt] (.Tuple [a, b] k2 pt2) pos) (rdS X.K (dAsg (fun ρ S => bnd (dA ρ S) fun vs S1 => newT vs S1) dg)) := by
  refine psI (ps_par hc hN hi hj hij hx hy ha hw) ?_
  rintro D σ H ⟨ρ, m, S, fl, ρ', S', re, rs, h, k⟩
  obtain ⟨v, S1, h1, h⟩ := bnd_eq_some h
  obtain ⟨ρ1, S2, h2, h⟩ := bnd_eq_some h
  cases h
  obtain ⟨vs, S3, h3, h1⟩ := bnd_eq_some h1
  obtain ⟨_, rfl, rfl⟩ := newT_some h1
  obtain ⟨v, w, rfl, hr⟩ := hd _ _ _ _ h2
  cases hr
  refine stepA re rs h3 fun xs m1 H1 e1 s1 r1 re1 => ?_
  obtain ⟨x, y, rfl, rx, ry⟩ := r1.two
  exact ⟨x, y, rfl, k _ m1 H1 e1 s1 ((re1.set i rx).set j ry)⟩
theorem RVs.three {m : List Addr} {H : Hp} {v w z : Val} {xs : List V} (r : RVs m H [v, w, z] xs) : ∃ x y u, xs = [x, y, u] ∧ RV m H v x ∧ RV m H w y ∧ RV m H z u := by
  cases r with
  | cons a b => obtain ⟨y, u, rfl, q, q2⟩ := b.two; exact ⟨_, y, u, rfl, a, q, q2⟩
theorem s_par3 {i j l : Nat} {x y z : Str} {px py pz pt pos : Pos} {kt k2 : Nat} {pt2 : Pos} (hc : X.calm = true) (hN : X.N.Nodup) (hi : X.N[i]? = some x) (hj : X.N[j]? = some y) (hl : X.N[l]? = some z) (hij : i ≠ j) (hil : i ≠ l) (hjl : j ≠ l)
    (hx : X.env.scope.names.lookup x = some .local) (hy : X.env.scope.names.lookup y = some .local) (hz : X.env.scope.names.lookup z = some .local) (ha : PA X [a, b, c] (rdA X.K dA))
    (hw : swappedStores [.Tuple [.Name x px, .Name y py, .Name z pz] kt pt] (.Tuple [a, b, c] k2 pt2) X.env = pure (some [x, y, z]))
    (hd : ∀ vs ρ S r, dg (.tup vs) ρ S = some r → ∃ v w u, vs = [v, w, u] ∧ r = (((ρ.set i (some v)).set j (some w)).set l (some u), S)) :
    PS X (.Assign [.Tuple [.Name x px, .Name y py, .Name z pz] kt pt] (.Tuple [a, b, c] k2 pt2) pos) (rdS X.K (dAsg (fun ρ S => bnd (dA ρ S) fun vs S1 => newT vs S1) dg)) := by
  refine psI (ps_par3 hc hN hi hj hl hij hil hjl hx hy hz ha hw (by rfl)) ?_
  rintro D σ H ⟨ρ, m, S, fl, ρ', S', re, rs, h, k⟩
  obtain ⟨v, S1, h1, h⟩ := bnd_eq_some h
  obtain ⟨ρ1, S2, h2, h⟩ := bnd_eq_some h
  cases h
  obtain ⟨vs, S3, h3, h1⟩ := bnd_eq_some h1
  obtain ⟨_, rfl, rfl⟩ := newT_some h1
  obtain ⟨v, w, u, rfl, hr⟩ := hd _ _ _ _ h2
  cases hr
  refine stepA re rs h3 fun xs m1 H1 e1 s1 r1 re1 => ?_
  obtain ⟨x, y, z, rfl, rx, ry, rz⟩ := r1.three
  exact ⟨x, y, z, rfl, k _ m1 H1 e1 s1 (((re1.set i rx).set j ry).set l rz)⟩

/-! the stores' order -/
def swN (sc : Scope) (ts : List Expr) : List Str := ts.filterMap fun
  | .Name id pos => if sc.names.lookup id == some .local && pos.line == (ts.head?.map (·.pos.line)).getD 0 then some id else none
  | _ => none
def swB (sc : Scope) (ts vs : List Expr) : Option (Option (List Str)) :=
  if (!(ts.length == 2 || ts.length == 3) || vs.length != ts.length) = true then some none else
  if (vs.any fun | .Starred .. => true | _ => false) = true then some none else
  if ((swN sc ts).length != ts.length || (swN sc ts).eraseDups.length != (swN sc ts).length) = true then some none else
  if vs.all (foldedForSure 8) = true then some none else
  if vs.all (constantsAlone 8) = true then none else some (some (swN sc ts))
theorem sw_tup {env : PySem.Env} {ts vs : List Expr} {k k2 : Nat} {p p2 : Pos} {r : Option (List Str)} (hk : env.scope.kind = .function) (h : swB env.scope ts vs = some r) : swappedStores [.Tuple ts k p] (.Tuple vs k2 p2) env = pure r := by
  have hb : (env.blockKind != .function) = false := by unfold Env.blockKind; rw [hk]; rfl
  have hN : (ts.filterMap fun
    | .Name id pos => if env.kindOf id == some .local && pos.line == (ts.head?.map (·.pos.line)).getD 0 then some id else none
    | _ => none) = swN env.scope ts := rfl
  unfold swappedStores
  simp only [hb, Bool.or_false]
  unfold swB at h
  by_cases h1 : (!(ts.length == 2 || ts.length == 3) || vs.length != ts.length) = true
  · rw [if_pos h1] at h ⊢
    cases h
    rfl
  rw [if_neg h1] at h ⊢
  by_cases h2 : (vs.any fun | .Starred .. => true | _ => false) = true
  · have h := (if_pos h2).symm.trans h
    cases h
    exact if_pos h2
  replace h := (if_neg h2).symm.trans h
  refine (if_neg h2).trans ?_
  by_cases h3 : ((swN env.scope ts).length != ts.length || (swN env.scope ts).eraseDups.length != (swN env.scope ts).length) = true
  · rw [if_pos h3] at h
    cases h
    exact if_pos h3
  rw [if_neg h3] at h
  refine (if_neg h3).trans ?_
  by_cases h4 : vs.all (foldedForSure 8) = true
  · rw [if_pos h4] at h ⊢
    cases h
    rfl
  rw [if_neg h4] at h ⊢
  by_cases h5 : vs.all (constantsAlone 8) = true
  · rw [if_pos h5] at h
    cases h
  rw [if_neg h5] at h ⊢
  cases h
  rfl
def isTup : Expr → Bool
  | .Tuple .. => true
  | _ => false
def notComp : Expr → Bool
  | .ListComp .. => false
  | .SetComp .. => false
  | .DictComp .. => false
  | _ => true
theorem sw_no {env : PySem.Env} {ts : List Expr} {k : Nat} {p : Pos} (h : isTup e = false) : swappedStores [.Tuple ts k p] e env = pure none := by
  cases e <;> first | rfl | cases h
theorem sw_name {env : PySem.Env} {x : Str} {p : Pos} : swappedStores [.Name x p] e env = pure none := by cases e <;> rfl
theorem sw_sub {env : PySem.Env} {o i : Expr} {p : Pos} : swappedStores [.Subscript o i p] e env = pure none := by cases e <;> rfl
theorem swW {env : PySem.Env} {t : Option Expr} {l : Nat} (h : notComp e = true) : swapsWith e t l env = pure false := by
  cases e <;> first | rfl | cases h
theorem swW_tup {env : PySem.Env} {ts : List Expr} {k l : Nat} {p : Pos} : swapsWith e (some (.Tuple ts k p)) l env = pure false := by
  cases e <;> rfl
theorem swW_sub {env : PySem.Env} {o i : Expr} {l : Nat} {p : Pos} : swapsWith e (some (.Subscript o i p)) l env = pure false := by
  cases e <;> rfl
def swV (sc scope : Scope) (t : Str) (py pos : Pos) : Bool := sc.names.lookup t == some .local && py.line == pos.line && !(scope.names.any fun (n, k) => n == t && (k == .local || k == .cell))
theorem swW_lc {env : PySem.Env} {elt : Expr} {gs : List Comprehension} {scope : Scope} {pos py : Pos} {t : Str} {l : Nat} (hk : env.scope.kind = .function) :
    swapsWith (.ListComp elt gs scope pos) (some (.Name t py)) l env = pure (swV env.scope scope t py pos) := by
  have hb : env.blockKind = .function := by unfold Env.blockKind; rw [hk]; rfl
  unfold swapsWith
  simp only [hb]
  rfl
end

/-! dict displays -/
def valK : Val → V
  | .int i => .int i
  | .str x => .str x
  | _ => .non
def rdD (K : PySem.W.Frag) (ks : List Val) (d : Env → Store → R (List Val)) : L2.St → Hp → (List (V × V) → Hp → Prop) → Prop := fun σ H Q => ∃ ρ m S ws S', RE m H ρ σ ∧ RS K m S H ∧ d ρ S = some (ws, S') ∧
  ∀ xs m' H', Ext m H m' H' → RS K m' S' H' → RVs m' H' ws xs → Q ((ks.map valK).zip xs) H'
structure DOk (X : Cx) (ks : List Val) (keys : List (Option Expr)) (values : List Expr) (dA : Env → Store → R (List Val)) : Prop where
  ex : ∀ pos, ∃ trs, PPs X pos keys values trs ∧ ∀ σ H Q, rdD X.K ks dA σ H Q → tPairs trs σ H Q
  ln : keys.length = values.length
  so : keys.all (·.isSome) = true
section
variable {X : Cx} {k v : Expr} {kv : Val} {ks : List Val} {keys : List (Option Expr)} {values : List Expr} {pos : Pos} {da db : Env → Store → R Val} {dA : Env → Store → R (List Val)}
theorem d_nil : DOk X [] [] [] (fun _ S => some ([], S)) := by
  refine ⟨fun pos => ⟨[], pps_nil, ?_⟩, rfl, rfl⟩
  rintro σ H Q ⟨ρ, m, S, ws, S', re, rs, h, k⟩
  cases h
  exact k [] m H (.refl _ _) rs .nil
theorem d_cons (hk : PE X k (tC (valK kv))) (hv : PE X v (rdE X.K da)) (hr : DOk X ks keys values dA) : DOk X (kv :: ks) (some k :: keys) (v :: values) (fun ρ S => bnd (da ρ S) fun w S1 => bnd (dA ρ S1) fun ws S2 => some (w :: ws, S2)) := by
  refine ⟨fun pos => ?_, by simp [hr.ln], by simpa using hr.so⟩
  obtain ⟨trs, h1, h2⟩ := hr.ex pos
  refine ⟨_, pps_cons hk hv h1, ?_⟩
  rintro σ H Q ⟨ρ, m, S, ws, S', re, rs, h, k⟩
  obtain ⟨w, S1, e1, h⟩ := bnd_eq_some h
  obtain ⟨ws, S2, e2, h⟩ := bnd_eq_some h
  cases h
  refine step1 re rs e1 fun x m1 H1 x1 s1 r1 re1 => h2 _ _ _ ⟨ρ, m1, S1, ws, _, re1, s1, e2, fun xs m2 H2 x2 s2 r2 => ?_⟩
  exact k (x :: xs) m2 H2 (x1.trans x2) s2 (.cons (r1.mono x2) r2)
theorem disp_rel {m : List Addr} {H : Hp} : ∀ {ks ws : List Val} {xs : List V} {kvs : List (Key × Val)}, dispK ks ws = some kvs → RVs m H ws xs → ∃ ys : List (Key × V), (ks.map valK).zip xs = ys.map (fun kv => (kV kv.1, kv.2)) ∧ RK m H kvs ys
  | [], [], _, _, h, .nil => by cases h; exact ⟨[], rfl, .nil⟩
  | k :: ks, w :: ws, _, _, h, .cons a b => by
    simp only [dispK] at h
    split at h
    · rename_i k' l e1 e2
      cases h
      obtain ⟨ys, e, r⟩ := disp_rel e2 b
      refine ⟨(k', _) :: ys, ?_, .cons a r⟩
      rw [List.map_cons, List.zip_cons_cons, List.map_cons, e]
      cases k with
      | int i => cases e1; rfl
      | str x => cases e1; rfl
      | _ => cases e1
    · cases h
  | [], _ :: _, _, _, h, _ => by cases h
  | _ :: _, [], _, _, h, _ => by cases h
theorem merge_rel {m : List Addr} {H : Hp} : ∀ {kvs acc : List (Key × Val)} {ys acc' : List (Key × V)}, RK m H kvs ys → RK m H acc acc' → RK m H (kvs.foldl (fun acc kv => putV acc kv.1 kv.2) acc) (mergeK acc' ys)
  | [], _, [], _, _, r => r
  | _ :: kvs, _, _ :: ys, _, .cons a b, r => merge_rel (kvs := kvs) (ys := ys) b (r.put a)
theorem e_dict (D : DOk X ks keys values dA) (h0 : keys ≠ []) (h15 : keys.length ≤ 15) : PE X (.Dict keys values pos) (rdE X.K fun ρ S => bnd (dA ρ S) fun vs S1 => dispV ks vs S1) := by
  obtain ⟨trs, h1, h2⟩ := D.ex pos
  refine peI (pe_disp h1 D.so D.ln h0 h15) ?_
  rintro σ H Q ⟨ρ, m, S, v, S', re, rs, h, k⟩ p hp
  obtain ⟨ws, S1, e1, h⟩ := bnd_eq_some h
  have sd := Side.start (ho := .dK []) rs hp
  refine h2 _ _ _ ⟨ρ, m, S, ws, S1, re.mono sd.ext, sd.rs, e1, fun xs m' H' x s r => ?_⟩
  have sd1 := sd.go x s
  unfold dispV at h
  split at h
  · rename_i kvs e2
    split at h
    · rename_i hl
      cases h
      obtain ⟨ys, ey, ry⟩ := disp_rel e2 r
      refine ⟨sd1.at_, ys, ey, by rw [← ry.length]; exact hl, ?_⟩
      have sd2 : Side X.K m H m' S1 (upd H' p (.dK (mergeK [] ys))) p (.dK (mergeK [] ys)) := sd1.write hp (fun _ _ q => nomatch q) (fun _ q => nomatch q)
      have rk : RK m' (upd H' p (.dK (mergeK [] ys))) (kvs.foldl (fun acc kv => putV acc kv.1 kv.2) []) (mergeK [] ys) := by
        refine (merge_rel ry .nil).heap fun a zs f q => ?_
        rw [upd_ne fun e => by
          rw [e, sd1.at_] at q
          cases q
          rcases f with ⟨_, z⟩ | ⟨_, _, z⟩ <;> cases z]; exact q
      obtain ⟨a1, a2⟩ := sd2.adopt (o := .dk false (kvs.foldl (fun acc kv => putV acc kv.1 kv.2) [])) hp (fun _ _ q => nomatch q) ⟨_, sd2.at_, rk.grow [p] (.one sd2.at_ fun _ _ q => nomatch q)⟩
      exact k _ _ _ a2 a1 (.ref (by rw [← sd2.rs.len, List.getElem?_concat_length]))
    · cases h
  · cases h
theorem e_dict1 (hk : PE X k (rdE X.K da)) (hv : PE X v (rdE X.K db)) : PE X (.Dict [some k] [v] pos) (rdE X.K fun ρ S => bnd (da ρ S) fun x S1 => bnd (db ρ S1) fun y S2 => match keyOf x with
    | some k => some (.ref S2.length, S2 ++ [.dk false [(k, y)]])
    | none => none) := by
  refine peI (pe_disp (pps_cons hk hv pps_nil) rfl rfl (by simp) (by simp)) ?_
  rintro σ H Q ⟨ρ, m, S, w, S', re, rs, h, q⟩ p hp
  obtain ⟨x, S1, e1, h⟩ := bnd_eq_some h
  obtain ⟨y, S2, e2, h⟩ := bnd_eq_some h
  split at h
  · rename_i ky ek
    cases h
    have sd := Side.start (ho := .dK []) rs hp
    refine step1 (re.mono sd.ext) sd.rs e1 fun x' m1 H1 x1 s1 r1 re1 => step1 re1 s1 e2 fun y' m2 H2 x2 s2 r2 re2 => ?_
    have sd1 := (sd.go x1 s1).go x2 s2
    have hx := keyOf_rel ek (r1.mono x2)
    subst hx
    refine ⟨sd1.at_, [(ky, y')], rfl, by simp, ?_⟩
    have sd2 : Side X.K m H m2 S2 (upd H2 p (.dK (mergeK [] [(ky, y')]))) p (.dK (mergeK [] [(ky, y')])) := sd1.write hp (fun _ _ q => nomatch q) (fun _ q => nomatch q)
    have rk : RK m2 (upd H2 p (.dK (mergeK [] [(ky, y')]))) [(ky, y)] (mergeK [] [(ky, y')]) := by
      refine RK.heap (H := H2) (fun a zs f q => ?_) ?_
      · rw [upd_ne fun e => by
          rw [e, sd1.at_] at q
          cases q
          rcases f with ⟨_, z⟩ | ⟨_, _, z⟩ <;> cases z]; exact q
      · exact (RK.nil (m := m2) (H := H2)).put (k := ky) r2
    obtain ⟨a1, a2⟩ := sd2.adopt (o := .dk false [(ky, y)]) hp (fun _ _ q => nomatch q) ⟨_, sd2.at_, rk.grow [p] (.one sd2.at_ fun _ _ q => nomatch q)⟩
    exact q _ _ _ a2 a1 (.ref (by rw [← sd2.rs.len, List.getElem?_concat_length]))
  · cases h
theorem e_dict0 : PE X (.Dict [] [] pos) (rdE X.K fun _ S => dispV [] [] S) := by
  refine peI pe_dnewK ?_
  rintro σ H Q ⟨ρ, m, S, v, S', re, rs, h, k⟩ p hp
  cases h
  exact k _ (m ++ [p]) _ (ext_add (ext_new hp) hp) (rs.alloc hp ⟨[], upd_same, .nil⟩) (.ref (by rw [← rs.len, List.getElem?_concat_length]))
/-! list(range(..)) -/
def lrgV (vs : List Val) (S : Store) : R Val := match rngV vs with
  | some (.rng lo _ n) => newL ((List.range n).map fun i : Nat => .int (lo + (i : Int))) S
  | _ => none
theorem rg_rel {m : List Addr} {H : Hp} {lo hi : Int} : RVs m H ((List.range (hi - lo).toNat).map fun i : Nat => .int (lo + (i : Int))) (rgV lo hi) := by
  unfold rgV
  generalize List.range (hi - lo).toNat = l
  induction l with
  | nil => exact .nil
  | cons i l ih => exact .cons (.int _) ih
theorem rg_ok {K : PySem.W.Frag} {m : List Addr} {H : Hp} {S S' : Store} {lo hi : Int} {v : Val} {Q : VK} (s : RS K m S H) (h1 : rngOk lo = true) (h2 : rngOk hi = true) (h : newL ((List.range (hi - lo).toNat).map fun i : Nat => .int (lo + (i : Int))) S = some (v, S')) (k : K1 K m H v S' Q) :
    RgOk lo hi ∧ ∀ q, H q = none → Q (.ref q) (upd H q (.lst (rgV lo hi))) := by
  obtain ⟨hl, rfl, rfl⟩ := newL_some h
  rw [List.length_map, List.length_range, sizeLine_eq] at hl
  have b1 := rngOk_ok h1
  have b2 := rngOk_ok h2
  exact ⟨⟨b1.1, b1.2, b2.1, b2.2, by omega⟩, fun q hq => k.lst s rg_rel hq⟩
theorem e_lrg1 {a : Expr} {da : Env → Store → R Val} {p p2 pos2 : Pos} (hc : X.calm = true) (hg : Gl X "list") (hm : X.mg "list" = none) (hg2 : Gl X "range") (hm2 : X.mg "range" = none) (ha : PE X a (rdE X.K da)) (hs : plainE a = true) :
    PE X (.Call (.Name "list" p) [.Call (.Name "range" p2) [a] [] pos2] [] pos) (rdE X.K fun ρ S => bnd (da ρ S) fun x S1 => lrgV [x] S1) := by
  refine peI (pe_listRg hc hg hm (prg_1 hg2 hm2 ha (starE hs))) ?_
  rintro σ H Q ⟨ρ, m, S, v, S', re, rs, h, k⟩
  obtain ⟨x, S1, h1, h⟩ := bnd_eq_some h
  refine step1 re rs h1 fun y m1 H1 e1 s1 r1 re1 => ?_
  cases x with
  | int j =>
    simp only [lrgV, rngV] at h
    split at h
    · rename_i lo cc n eJ
      split at eJ
      · rename_i ok
        cases eJ
        cases r1
        have h' : newL ((List.range (j - 0).toNat).map fun i : Nat => .int (0 + (i : Int))) S1 = some (v, S') := by rw [Int.sub_zero]; exact h
        exact ⟨j, rfl, rg_ok s1 (by decide) ok h' (k.mono e1)⟩
      · cases eJ
    · cases h
  | _ => cases h
theorem e_lrg2 {a b : Expr} {da db : Env → Store → R Val} {p p2 pos2 : Pos} (hc : X.calm = true) (hg : Gl X "list") (hm : X.mg "list" = none) (hg2 : Gl X "range") (hm2 : X.mg "range" = none) (ha : PE X a (rdE X.K da)) (hs : plainE a = true) (hb : PE X b (rdE X.K db)) (hs2 : plainE b = true) :
    PE X (.Call (.Name "list" p) [.Call (.Name "range" p2) [a, b] [] pos2] [] pos) (rdE X.K fun ρ S => bnd (da ρ S) fun x S1 => bnd (db ρ S1) fun y S2 => lrgV [x, y] S2) := by
  refine peI (pe_listRg hc hg hm (prg_2 hg2 hm2 ha hb (starE hs) (starE hs2) (starEs_any (by simp [hs2])))) ?_
  rintro σ H Q ⟨ρ, m, S, v, S', re, rs, h, k⟩
  obtain ⟨x, S1, h1, h⟩ := bnd_eq_some h
  obtain ⟨y, S2, h2, h⟩ := bnd_eq_some h
  refine step1 re rs h1 fun x' m1 H1 e1 s1 r1 re1 => step1 re1 s1 h2 fun y' m2 H2 e2 s2 r2 re2 => ?_
  cases x with
  | int i =>
    cases y with
    | int j =>
      simp only [lrgV, rngV] at h
      split at h
      · rename_i lo cc n eJ
        split at eJ
        · rename_i ok
          cases eJ
          cases r1
          cases r2
          rw [Bool.and_eq_true] at ok
          exact ⟨i, j, rfl, rfl, rg_ok s2 ok.1 ok.2 h (k.mono (e1.trans e2))⟩
        · cases eJ
      · cases h
    | _ => cases h
  | _ => cases h
end
end Rf

/-! Rf9: which term of the small language an expression is: a check, and what it gives. -/
namespace Rf
open PySem PySem.Spec PyProof.Rows L2

structure Ct where
  N : List Str
  sc : Scope
  fn : Str → Bool
  fs : List Str
def visB (sc : Scope) (x : Str) : Bool := match sc.names.lookup x with
  | some .local => true
  | some .cell => true
  | some .free => true
  | _ => false
theorem vis_of {sc : Scope} {x : Str} (h : visB sc x = true) : Vis sc x := by
  unfold visB at h
  split at h
  · exact .inl (by assumption)
  · exact .inr (.inl (by assumption))
  · exact .inr (.inr (by assumption))
  · cases h
def nmOk (x : Str) : Bool := !(x == ("__debug__" : Str)) && !(x == ("__classdict__" : Str))
def glB (c : Ct) (x : Str) : Bool := decide (c.sc.names.lookup x = some .globalImplicit) && !(x == ("__debug__" : Str))
def locB (c : Ct) (x : Str) : Bool := match c.sc.names.lookup x with
  | some .local => true
  | some .cell => c.fn x
  | _ => false
def ckK : Val → Const → Bool
  | .int i, .int j => decide (i = j)
  | .bl a, .bool b => decide (a = b)
  | .non, .none => true
  | .str x, .str y => decide (x = y)
  | _, _ => false
def eqB : Bop → Operator → Bool
  | .add, .Add => true | .sub, .Sub => true | .mul, .Mult => true | .fdiv, .FloorDiv => true | .mod, .Mod => true | .pow, .Pow => true | .shl, .LShift => true
  | _, _ => false
def eqC : Cop → CmpOp → Bool
  | .eq, .Eq => true | .ne, .NotEq => true | .lt, .Lt => true | .le, .LtE => true | .gt, .Gt => true | .ge, .GtE => true | .is, .Is => true | .isnot, .IsNot => true | .isin, .In => true | .notin, .NotIn => true
  | _, _ => false
theorem eqB_ok {op : Bop} {o : Operator} (h : eqB op o = true) : o = pyB op := by cases op <;> cases o <;> first | rfl | cases h
theorem eqC_ok {op : Cop} {o : CmpOp} (h : eqC op o = true) : o = pyC op := by cases op <;> cases o <;> first | rfl | cases h
def ownP (N : List Str) (own : List Nat) : List (Str × Nat) := own.filterMap fun i => N[i]?.map fun x => (x, i)
def notSet : Expr → Bool
  | .Set .. => false
  | _ => true
theorem notSet_ok {e : Expr} {env : PySem.Env} (h : notSet e = true) (x : Value) : foldedSetIterable e env x = pure x := by cases e <;> first | rfl | cases h
def X.isYes : Rf.X → Bool
  | .k (.bl true) => true
  | _ => false
def ckKs : List Val → List (Option Expr) → Bool
  | [], [] => true
  | k :: ks, some (.Constant (.int j) _ _) :: r => ckK k (.int j) && ckKs ks r
  | k :: ks, some (.Constant (.str j) _ _) :: r => ckK k (.str j) && ckKs ks r
  | _, _ => false
def isNm : Expr → Bool
  | .Name .. => true
  | _ => false
mutual
def slotsT : T → List Nat
  | .slot i => [i]
  | .tup ts => slotsTs ts
  | .sub _ _ => []
def slotsTs : Ts → List Nat
  | .nil => []
  | .cons t ts => slotsT t ++ slotsTs ts
end
def Ct.blk (c : Ct) (scope : Scope) : Ct := { c with sc := relS scope c.sc, fn := fun x => scope.names.lookup x == some .cell }
mutual
def ckX (c : Ct) : Rf.X → Expr → Bool
  | .slot i, e => match e with
    | .Name x _ => decide (c.N[i]? = some x) && visB c.sc x && nmOk x
    | _ => false
  | .k v, e => match e with
    | .Constant k _ _ => ckK v k
    | .Name x _ => match v with
      | .ty n => tyNames.contains n && decide (x = Str.ofString n) && glB c x
      | _ => false
    | _ => false
  | .bin op a b, e => match e with
    | .BinOp a' op' b' _ => eqB op op' && ckX c a a' && ckX c b b'
    | _ => false
  | .neg a, e => match e with
    | .UnaryOp .USub a' _ => ckX c a a'
    | _ => false
  | .cmp op a b, e => match e with
    | .Compare a' [op'] [b'] _ => eqC op op' && !(behindInMarks op' b') && ckX c a a' && ckX c b b'
    | _ => false
  | .cmp2 op op2 a b d, e => match e with
    | .Compare a' [o1, o2] [b', d'] _ => eqC op o1 && eqC op2 o2 && !(lastMarks [o1, o2] [b', d']) && ckX c a a' && ckX c b b' && ckX c d d'
    | _ => false
  | .and a b, e => match e with
    | .BoolOp .And [a', b'] _ => ckX c a a' && ckX c b b'
    | .BoolOp .And (a' :: b' :: d' :: rest) pos => ckX c a a' && ckX c b (.BoolOp .And (b' :: d' :: rest) pos)
    | _ => false
  | .or a b, e => match e with
    | .BoolOp .Or [a', b'] _ => ckX c a a' && ckX c b b'
    | .BoolOp .Or (a' :: b' :: d' :: rest) pos => ckX c a a' && ckX c b (.BoolOp .Or (b' :: d' :: rest) pos)
    | _ => false
  | .not a, e => match e with
    | .UnaryOp .Not a' _ => ckX c a a'
    | _ => false
  | .ife t a b, e => match e with
    | .IfExp t' a' b' _ => ckX c t t' && ckX c a a' && ckX c b b'
    | _ => false
  | .tup es, e => match e with
    | .Tuple es' _ _ => ckXs c es es'
    | _ => false
  | .lst es, e => match e with
    | .List es' _ => ckXs c es es'
    | _ => false
  | .dict ks vs, e => match e with
    | .Dict keys values _ => decide (keys.length ≤ 15) && decide (keys.length = values.length) && ckKs ks keys && ckXs c vs values
    | _ => false
  | .dict1 a b, e => match e with
    | .Dict [some a'] [b'] _ => ckX c a a' && ckX c b b'
    | _ => false
  | .idx a b, e => match e with
    | .Subscript a' b' _ => noSlice b' && ckX c a a' && ckX c b b'
    | _ => false
  | .sli a lo hi, e => match e with
    | .Subscript a' (.Slice lo' hi' none _) _ => ckX c a a' && (match lo' with
        | none => lo.isNon
        | some l => !lo.isNon && ckX c lo l) && (match hi' with
        | none => hi.isNon
        | some l => !hi.isNon && ckX c hi l)
    | _ => false
  | .rev a, e => match e with
    | .Subscript a' (.Slice none none (some (.UnaryOp .USub (.Constant (.int j) _ _) _)) _) _ => decide (j = 1) && ckX c a a'
    | _ => false
  | .call f args, e => match e with
    | .Call (.Name x _) es [] _ => decide (c.fs[f]? = some x) && glB c x && ckXs c args es
    | _ => false
  | .bi b args, e => match e with
    | .Call (.Name x _) (e1 :: es) [] _ => decide (x = nameB b) && glB c x && ckXs c args (e1 :: es)
    | _ => false
  | .mt m o args, e => match e with
    | .Call (.Attribute o' nm apos) es [] pos => decide (nm = nameM m) && plainO o' && decide (es.length < 20) && (apos.endLine == pos.line) && ckX c o o' && ckXs c args es
    | _ => false
  | .lc elt t it cnd own, e => match e with
    | .ListComp elt' [⟨tg, iter, ifs, k⟩] scope _ => decide (k = 0) && blkC c.N c.sc scope (ownP c.N own) && decide ((ownP c.N own).map (·.2) = own) && decide (∀ i ∈ slotsT t, i ∈ own) && notSet iter && ckI c it tg iter && ckT (c.blk scope) t tg &&
        (match ifs with
          | [] => X.isYes cnd
          | [i] => ckX (c.blk scope) cnd i
          | _ => false) && ckX (c.blk scope) elt elt'
    | _ => false
  | .dc kx vx t it cnd own, e => match e with
    | .DictComp kx' vx' [⟨tg, iter, ifs, k⟩] scope _ => decide (k = 0) && blkC c.N c.sc scope (ownP c.N own) && decide ((ownP c.N own).map (·.2) = own) && decide (∀ i ∈ slotsT t, i ∈ own) && notSet iter && ckI c it tg iter && ckT (c.blk scope) t tg &&
        (match ifs with
          | [] => X.isYes cnd
          | [i] => ckX (c.blk scope) cnd i
          | _ => false) && ckX (c.blk scope) kx kx' && ckX (c.blk scope) vx vx'
    | _ => false
  | .lrg args, e => match e with
    | .Call (.Name x _) [.Call (.Name y _) es [] _] [] _ => decide (x = ("list" : Str)) && glB c x && decide (y = ("range" : Str)) && glB c y && (decide (es.length = 1) || decide (es.length = 2)) && ckXs c args es
    | _ => false
def ckXs (c : Ct) : Xs → List Expr → Bool
  | .nil, es => match es with
    | [] => true
    | _ => false
  | .cons x xs, es => match es with
    | e :: es => plainE e && ckX c x e && ckXs c xs es
    | [] => false
def ckI (c : Ct) : I → Expr → Expr → Bool
  | .ex x, _, e => ckX c x e
  | .rng args, _, e => match e with
    | .Call (.Name nm _) es [] _ => decide (nm = ("range" : Str)) && glB c nm && (decide (es.length = 1) || decide (es.length = 2)) && ckXs c args es
    | _ => false
  | .enum x, tg, e => match e with
    | .Call (.Name nm _) [e'] [] _ => isTup tg && decide (nm = ("enumerate" : Str)) && glB c nm && plainE e' && ckX c x e'
    | _ => false
  | .zip xs, tg, e => match e with
    | .Call (.Name nm _) es [] _ => isTup tg && decide (nm = ("zip" : Str)) && glB c nm && (decide (es.length = 2) || decide (es.length = 3)) && ckXs c xs es
    | _ => false
  | .zipn xs, tg, e => match e with
    | .Call (.Name nm _) es [] _ => isNm tg && decide (nm = ("zip" : Str)) && glB c nm && (decide (es.length = 2) || decide (es.length = 3)) && ckXs c xs es
    | _ => false
def ckT (c : Ct) : T → Expr → Bool
  | .slot i, e => match e with
    | .Name x _ => decide (c.N[i]? = some x) && locB c x
    | _ => false
  | .tup ts, e => match e with
    | .Tuple es _ _ => ckTs c ts es
    | _ => false
  | .sub o i, e => match e with
    | .Subscript o' i' _ => noSlice i' && ckX c o o' && ckX c i i'
    | _ => false
def ckTs (c : Ct) : Ts → List Expr → Bool
  | .nil, es => match es with
    | [] => true
    | _ => false
  | .cons t ts, es => match es with
    | e :: es => plainE e && ckT c t e && ckTs c ts es
    | [] => false
end
end Rf

/-! Rf10: what the check gives. -/
namespace Rf
open PySem PySem.Spec PyProof.Rows L2

/-- a function's promise, wherever it is called with this room -/
def CallAll (P : Program) (w : World) (K : PySem.W.Frag) (mg : Str → Option Value) (base : Heap) (A : Around) (fv : Value) (g : List Val → Store → R Val) : Prop :=
  ∀ Y : Cx, Y.prog = P → Y.w = w → Y.K = K → Y.mg = mg → Y.base = base → Y.A = A → CallR Y fv (rCB K g)
/-- what a name of the text stands for: a def, or a built-in function of a module -/
def Cal (K : PySem.W.Frag) (fv : Value) (g : List Val → Store → R Val) : Prop := (∃ fa, fv = .ref fa ∧ PySem.W.keepIn K (.ref fa) = true) ∨ ((∃ id, fv = .builtin id) ∧ ∀ S, g [] S = none)
def biNames : List Str := ["len", "int", "abs", "max", "min", "sum", "tuple", "list", "repr", "all", "any", "range", "enumerate", "zip", "isinstance", "bool", "str", "dict", "sorted"]
structure Gd (c : Ct) (cf : CF) (Y : Cx) : Prop where
  N : Y.N = c.N
  sc : Y.env.scope = c.sc
  nd : Y.N.Nodup
  calm : Y.calm = true
  fn : ∀ x, c.fn x = true → Y.fn x = true
  xe : Y.xe = fun _ _ => False
  un : Y.A.units + 65 < cLine
  gu : Y.A.guards = some []
  kd : Y.env.scope.kind = .function
  bi : ∀ x ∈ biNames, Y.mg x = none
  fs : ∀ (i : Nat) (x : Str), c.fs[i]? = some x → ∃ fv, Y.mg x = some fv ∧ Cal Y.K fv (cf i) ∧ CallAll Y.prog Y.w Y.K Y.mg Y.base Y.A fv (cf i)
variable {c : Ct} {cf : CF} {Y : Cx}
theorem Gd.blk (G : Gd c cf Y) {scope : Scope} (hk : scope.kind = .function) (s : Shared) (H : Hp) (C : Addr) (cl : List (Str × Addr)) (fp : List Addr) : Gd (c.blk scope) cf (Y.blk s H scope (compEnvC scope cl C Y.env) fp) where
  N := G.N
  sc := by show relS scope Y.env.scope = relS scope c.sc; rw [G.sc]
  nd := G.nd
  calm := G.calm
  fn := fun x h => h
  xe := rfl
  un := G.un
  gu := G.gu
  kd := hk
  bi := G.bi
  fs := G.fs
theorem Gd.gl (G : Gd c cf Y) {x : Str} (h : glB c x = true) : Gl Y x ∧ (x == ("__debug__" : Str)) = false := by
  unfold glB at h
  simp only [Bool.and_eq_true, decide_eq_true_eq, Bool.not_eq_true'] at h
  refine ⟨?_, h.2⟩
  show Y.env.scope.names.lookup x = _
  rw [G.sc]; exact h.1
theorem Gd.ix (G : Gd c cf Y) {i : Nat} {x : Str} (h : decide (c.N[i]? = some x) = true) : Y.N[i]? = some x := by rw [G.N]; exact of_decide_eq_true h
theorem Gd.pass (G : Gd c cf Y) : PassesOwn (model Y.prog Y.w) Y.A Y.env Y.xe := by rw [G.xe]; exact PassesOwn.never
/-- an expression whose test is not its value's truth -/
def isBO : Expr → Bool
  | .BoolOp .. => true
  | _ => false
def EOk (Y : Cx) (e : Expr) (d : Env → Store → R Val) : Prop := PE Y e (rdE Y.K d) ∧ PT Y e (rdT Y.K d) ∧ (isBO e = true → PW Y e (rdT Y.K d))
theorem eok {e : Expr} {d : Env → Store → R Val} (h : PE Y e (rdE Y.K d)) (he : ∀ whole, isTrue e Y.env whole = (do let v ← whole; standAt e.pos; holding [v] (truthy v))) (hb : isBO e = false) : EOk Y e d :=
  ⟨h, e_test h he, fun q => by rw [hb] at q; cases q⟩
theorem const_ok {v : Val} {k : Const} {j : Nat} {pos : Pos} (h : ckK v k = true) : PE Y (.Constant k j pos) (rdE Y.K fun _ S => some (v, S)) := by
  cases v <;> cases k <;> first | (cases h; done) | skip
  · exact e_const pe_non fun _ _ => .non
  · cases of_decide_eq_true h; exact e_const pe_bl fun _ _ => .bl _
  · cases of_decide_eq_true h; exact e_const pe_int fun _ _ => .int _
  · cases of_decide_eq_true h; exact e_const pe_str fun _ _ => .str _
def Xs.len : Xs → Nat
  | .nil => 0
  | .cons _ xs => xs.len + 1
theorem evs_len : ∀ {xs : Xs} {ρ : Env} {S : Store} {vs : List Val} {S1 : Store}, evs cf xs ρ S = some (vs, S1) → vs.length = xs.len
  | .nil, _, _, _, _, h => by cases h; rfl
  | .cons x xs, _, _, _, _, h => by
    obtain ⟨v, S2, _, h⟩ := bnd_eq_some h
    obtain ⟨vs, S3, h3, h⟩ := bnd_eq_some h
    cases h
    rw [List.length_cons, evs_len h3]
    rfl
theorem ckXs_len : ∀ {xs : Xs} {es : List Expr}, ckXs c xs es = true → es.length = xs.len
  | .nil, [], _ => rfl
  | .nil, _ :: _, h => by cases h
  | .cons x xs, [], h => by cases h
  | .cons x xs, e :: es, h => by
    simp only [ckXs, Bool.and_eq_true] at h
    rw [List.length_cons, ckXs_len h.2]
    rfl
theorem ckXs_plain : ∀ {xs : Xs} {es : List Expr}, ckXs c xs es = true → es.all plainE = true
  | .nil, [], _ => rfl
  | .nil, _ :: _, h => by cases h
  | .cons x xs, [], h => by cases h
  | .cons x xs, e :: es, h => by
    simp only [ckXs, Bool.and_eq_true] at h
    rw [List.all_cons, h.1.1, ckXs_plain h.2]
    rfl
def Ts.len : Ts → Nat
  | .nil => 0
  | .cons _ xs => xs.len + 1
theorem asgs_len : ∀ {ts : Ts} {vs : List Val} {ρ : Env} {S : Store} {r : Env × Store}, asgs cf ts vs ρ S = some r → vs.length = ts.len
  | .nil, [], _, _, _, _ => rfl
  | .nil, _ :: _, _, _, _, h => by cases h
  | .cons t ts, [], _, _, _, h => by cases h
  | .cons t ts, v :: vs, _, _, r, h => by
    obtain ⟨ρ1, S1, h1, h⟩ := bnd_eq_some (show bnd (asg cf t v _ _) (fun ρ1 S1 => asgs cf ts vs ρ1 S1) = some r from h)
    rw [List.length_cons, asgs_len h]
    rfl
theorem ckTs_len : ∀ {ts : Ts} {es : List Expr}, ckTs c ts es = true → es.length = ts.len ∧ es.all plainE = true
  | .nil, [], _ => ⟨rfl, rfl⟩
  | .nil, _ :: _, h => by cases h
  | .cons x xs, [], h => by cases h
  | .cons x xs, e :: es, h => by
    simp only [ckTs, Bool.and_eq_true] at h
    obtain ⟨h1, h2⟩ := ckTs_len h.2
    exact ⟨by rw [List.length_cons, h1]; rfl, by rw [List.all_cons, h.1.1, h2]; rfl⟩
end Rf

/-! Rf11: the check is sound, expressions. -/
namespace Rf
open PySem PySem.Spec PyProof.Rows L2

theorem loc_of {c : Ct} {cf : CF} {Y : Cx} (G : Gd c cf Y) {x : Str} (h : locB c x = true) : Loc Y.env.scope x ∧ (Y.fn x = true ∨ Y.env.scope.names.lookup x = some .local) := by
  unfold locB at h
  rw [← G.sc] at h
  split at h
  · exact ⟨.inl (by assumption), .inr (by assumption)⟩
  · exact ⟨.inr (by assumption), .inl (G.fn x h)⟩
  · cases h
theorem biR {x : Str} (b : Bi) (h : x = nameB b) : x ∈ biNames := by
  subst h
  cases b <;> decide
inductive VOk (Y : Cx) : List Expr → (Env → Store → R (List Val)) → Prop where
  | nil : VOk Y [] (fun _ S => some ([], S))
  | cons {e : Expr} {es : List Expr} {d : Env → Store → R Val} {dA : Env → Store → R (List Val)} : plainE e = true → PE Y e (rdE Y.K d) → VOk Y es dA → VOk Y (e :: es) (fun ρ S => bnd (d ρ S) fun v S1 => bnd (dA ρ S1) fun vs S2 => some (v :: vs, S2))
theorem VOk.pa {Y : Cx} {es : List Expr} {dA : Env → Store → R (List Val)} (h : VOk Y es dA) : PA Y es (rdA Y.K dA) := by
  induction h with
  | nil => exact a_nil
  | cons hp he _ ih => exact a_cons he ih hp
theorem VOk.d {Y : Cx} : ∀ {ks : List Val} {keys : List (Option Expr)} {es : List Expr} {dA : Env → Store → R (List Val)}, VOk Y es dA → ckKs ks keys = true → keys.length = es.length → DOk Y ks keys es dA
  | [], [], _, _, .nil, _, _ => d_nil
  | k :: ks, some (.Constant (.int j) _ _) :: keys, _, _, .cons hp he hr, h, hl => by
    simp only [ckKs, Bool.and_eq_true] at h
    refine d_cons ?_ he (hr.d h.2 (by simpa using hl))
    cases k with
    | int i => cases of_decide_eq_true h.1; exact pe_int
    | _ => cases h.1
  | k :: ks, some (.Constant (.str j) _ _) :: keys, _, _, .cons hp he hr, h, hl => by
    simp only [ckKs, Bool.and_eq_true] at h
    refine d_cons ?_ he (hr.d h.2 (by simpa using hl))
    cases k with
    | str i => cases of_decide_eq_true h.1; exact pe_str
    | _ => cases h.1
mutual
theorem okX {cf : CF} : ∀ (x : Rf.X) {c : Ct} {Y : Cx} {e : Expr}, Gd c cf Y → ckX c x e = true → EOk Y e (ev cf x)
  | .slot i, c, Y, e, G, h => by
    unfold ckX at h
    split at h
    · rename_i x p
      simp only [Bool.and_eq_true] at h
      have h2 := h.2
      simp only [nmOk, Bool.and_eq_true, Bool.not_eq_true'] at h2
      exact eok (e_slot (G.ix h.1.1) (by rw [G.sc]; exact vis_of h.1.2) h2.1 h2.2) (fun _ => rfl) rfl
    · cases h
  | .k v, c, Y, e, G, h => by
    unfold ckX at h
    split at h
    · exact eok (const_ok h) (fun _ => rfl) rfl
    · split at h
      · rename_i n
        simp only [Bool.and_eq_true, decide_eq_true_eq] at h
        obtain ⟨⟨h1, rfl⟩, h3⟩ := h
        have hn : n ∈ tyNames := by simpa using h1
        have hb : Str.ofString n ∈ biNames := by
          simp only [tyNames, List.mem_cons, List.not_mem_nil, or_false] at hn
          rcases hn with rfl | rfl | rfl | rfl | rfl | rfl <;> decide
        exact eok (e_ty hn (G.gl h3).1 (G.bi _ hb)) (fun _ => rfl) rfl
      · cases h
    · cases h
  | .bin op a b, c, Y, e, G, h => by
    unfold ckX at h
    split at h
    · simp only [Bool.and_eq_true] at h
      rw [eqB_ok h.1.1]
      exact eok (e_bin op (okX a G h.1.2).1 (okX b G h.2).1) (fun _ => rfl) rfl
    · cases h
  | .neg a, c, Y, e, G, h => by
    unfold ckX at h
    split at h
    · exact eok (e_neg (okX a G h).1) (fun _ => rfl) rfl
    · cases h
  | .cmp op a b, c, Y, e, G, h => by
    unfold ckX at h
    split at h
    · simp only [Bool.and_eq_true, Bool.not_eq_true'] at h
      obtain ⟨⟨⟨h1, h2⟩, h3⟩, h4⟩ := h
      rw [eqC_ok h1] at h2 ⊢
      exact ⟨e_cmp G.un op (okX a G h3).1 (okX b G h4).1 h2, t_cmp G.un op (okX a G h3).1 (okX b G h4).1 h2, fun q => by cases q⟩
    · cases h
  | .cmp2 op op2 a b d, c, Y, e, G, h => by
    unfold ckX at h
    split at h
    · simp only [Bool.and_eq_true, Bool.not_eq_true'] at h
      obtain ⟨⟨⟨⟨⟨h1, h2⟩, h3⟩, h4⟩, h5⟩, h6⟩ := h
      rw [eqC_ok h1, eqC_ok h2] at h3 ⊢
      exact ⟨e_cmp2 G.un op op2 (okX a G h4).1 (okX b G h5).1 (okX d G h6).1 h3, t_cmp2 G.un op op2 (okX a G h4).1 (okX b G h5).1 (okX d G h6).1 h3, fun q => by cases q⟩
    · cases h
  | .and a b, c, Y, e, G, h => by
    unfold ckX at h
    split at h
    · rename_i a' b' pos
      simp only [Bool.and_eq_true] at h
      have ha := okX a G h.1
      have hb := okX b G h.2
      have w : PW Y (.BoolOp .And [a', b'] pos) (rdT Y.K (dAnd (ev cf a) (ev cf b))) := w_and ha.2.1 (pw_and1 hb.2.1)
      exact ⟨e_and ha.1 (pe_one hb.1), w.pt, fun _ => w⟩
    · rename_i a' b' d' rest pos
      simp only [Bool.and_eq_true] at h
      have ha := okX a G h.1
      have hb := okX b G h.2
      have w : PW Y (.BoolOp .And (a' :: b' :: d' :: rest) pos) (rdT Y.K (dAnd (ev cf a) (ev cf b))) := w_and ha.2.1 (hb.2.2 rfl)
      exact ⟨e_and ha.1 hb.1, w.pt, fun _ => w⟩
    · cases h
  | .or a b, c, Y, e, G, h => by
    unfold ckX at h
    split at h
    · rename_i a' b' pos
      simp only [Bool.and_eq_true] at h
      have ha := okX a G h.1
      have hb := okX b G h.2
      have w : PW Y (.BoolOp .Or [a', b'] pos) (rdT Y.K (dOr (ev cf a) (ev cf b))) := w_or ha.2.1 (pw_or1 hb.2.1)
      exact ⟨e_or ha.1 (pe_one hb.1), w.pt, fun _ => w⟩
    · rename_i a' b' d' rest pos
      simp only [Bool.and_eq_true] at h
      have ha := okX a G h.1
      have hb := okX b G h.2
      have w : PW Y (.BoolOp .Or (a' :: b' :: d' :: rest) pos) (rdT Y.K (dOr (ev cf a) (ev cf b))) := w_or ha.2.1 (hb.2.2 rfl)
      exact ⟨e_or ha.1 hb.1, w.pt, fun _ => w⟩
    · cases h
  | .not a, c, Y, e, G, h => by
    unfold ckX at h
    split at h
    · have ha := okX a G h
      exact ⟨e_not ha.1, t_not ha.2.1, fun q => by cases q⟩
    · cases h
  | .ife t a b, c, Y, e, G, h => by
    unfold ckX at h
    split at h
    · simp only [Bool.and_eq_true] at h
      have ht := okX t G h.1.1
      have ha := okX a G h.1.2
      have hb := okX b G h.2
      exact ⟨e_ife ht.2.1 ha.1 hb.1, t_ife ht.2.1 ha.2.1 hb.2.1, fun q => by cases q⟩
    · cases h
  | .tup es, c, Y, e, G, h => by
    unfold ckX at h
    split at h
    · exact eok (e_tup (okXs es G h).pa) (fun _ => rfl) rfl
    · cases h
  | .lst es, c, Y, e, G, h => by
    unfold ckX at h
    split at h
    · exact eok (e_lst (okXs es G h).pa) (fun _ => rfl) rfl
    · cases h
  | .dict ks vs, c, Y, e, G, h => by
    unfold ckX at h
    split at h
    · rename_i keys values p
      simp only [Bool.and_eq_true, decide_eq_true_eq] at h
      obtain ⟨⟨⟨h1, h2⟩, h3⟩, h4⟩ := h
      have D := (okXs vs G h4).d h3 h2
      cases keys with
      | nil =>
        have : values = [] := List.eq_nil_of_length_eq_zero h2.symm
        subst this
        cases ks with
        | nil =>
          cases vs with
          | nil => exact eok e_dict0 (fun _ => rfl) rfl
          | cons x xs => simp only [ckXs] at h4; cases h4
        | cons k ks => simp only [ckKs] at h3; cases h3
      | cons k keys => exact eok (e_dict D (by simp) h1) (fun _ => rfl) rfl
    · cases h
  | .dict1 a b, c, Y, e, G, h => by
    unfold ckX at h
    split at h
    · simp only [Bool.and_eq_true] at h
      exact eok (e_dict1 (okX a G h.1).1 (okX b G h.2).1) (fun _ => rfl) rfl
    · cases h
  | .idx a b, c, Y, e, G, h => by
    unfold ckX at h
    split at h
    · simp only [Bool.and_eq_true] at h
      have hu := G.un
      exact eok (e_idx (by omega) (okX a G h.1.2).1 (okX b G h.2).1 h.1.1) (fun _ => rfl) rfl
    · cases h
  | .sli a lo hi, c, Y, e, G, h => by
    unfold ckX at h
    split at h
    · rename_i a' lo' hi' p p2
      simp only [Bool.and_eq_true] at h
      obtain ⟨⟨h1, h2⟩, h3⟩ := h
      have part_ok : ∀ {z : Rf.X} {z' : Option Expr}, (∀ l, z' = some l → (!z.isNon) = true → ckX c z l = true → PE Y l (rdE Y.K (ev cf z))) → (match z' with | none => z.isNon | some l => !z.isNon && ckX c z l) = true → PO Y z' (rdO Y.K z.isNon (ev cf z)) := by
        intro z z' hz h
        cases z' with
        | none =>
          cases z with
          | k v =>
            cases v with
            | non => exact o_none
            | _ => cases h
          | _ => cases h
        | some l =>
          simp only [Bool.and_eq_true] at h
          have := hz l rfl h.1 h.2
          have e : z.isNon = false := by simpa using h.1
          rw [e]
          exact o_some this
      exact eok (e_sli (okX a G h1).1 (part_ok (fun l _ _ q => (okX lo G q).1) h2) (part_ok (fun l _ _ q => (okX hi G q).1) h3)) (fun _ => rfl) rfl
    · cases h
  | .rev a, c, Y, e, G, h => by
    unfold ckX at h
    split at h
    · simp only [Bool.and_eq_true] at h
      cases of_decide_eq_true h.1
      exact eok (e_rev (okX a G h.2).1) (fun _ => rfl) rfl
    · cases h
  | .call f args, c, Y, e, G, h => by
    unfold ckX at h
    split at h
    · rename_i x p es p2
      simp only [Bool.and_eq_true] at h
      obtain ⟨⟨h1, h2⟩, h3⟩ := h
      obtain ⟨g1, g2⟩ := G.gl h2
      obtain ⟨fv, f1, f2, f3⟩ := G.fs f x (of_decide_eq_true h1)
      have cr := f3 Y rfl rfl rfl rfl rfl rfl
      have ha := (okXs args G h3).pa
      have pl := ckXs_plain h3
      cases es with
      | nil =>
        cases args with
        | nil =>
          rcases f2 with ⟨fa, rfl, f2⟩ | ⟨⟨id, rfl⟩, f2⟩
          · exact eok (e_call0 cr g1 f1 f2 g2) (fun _ => rfl) rfl
          · refine eok ⟨fun pins s σ H Q I h => ?_⟩ (fun _ => rfl) rfl
            obtain ⟨ρ, m, S, v, S', _, _, q, _⟩ := h
            have q' : cf f [] S = some (v, S') := q
            rw [f2] at q'; cases q'
        | cons x xs => simp only [ckXs] at h3; cases h3
      | cons e es =>
        simp only [List.all_cons, Bool.and_eq_true] at pl
        rcases f2 with ⟨fa, rfl, f2⟩ | ⟨⟨id, rfl⟩, f2⟩
        · exact eok (e_call cr g1 f1 f2 ha g2 pl.1 pl.2) (fun _ => rfl) rfl
        · exact eok (peI (pe_callBfun cr g1 f1 ha g2 (starE pl.1) (starEs_any pl.2)) fun _ _ _ => rd_cb) (fun _ => rfl) rfl
    · cases h
  | .bi b args, c, Y, e, G, h => by
    unfold ckX at h
    split at h
    · rename_i x p e1 es p2
      simp only [Bool.and_eq_true] at h
      obtain ⟨⟨h1, h2⟩, h3⟩ := h
      have e := of_decide_eq_true h1
      subst e
      obtain ⟨g1, g2⟩ := G.gl h2
      have pl := ckXs_plain h3
      simp only [List.all_cons, Bool.and_eq_true] at pl
      have hu := G.un
      exact eok (e_bi G.calm (by omega) G.gu b g1 (G.bi _ (biR b rfl)) (okXs args G h3).pa pl.1 pl.2) (fun _ => rfl) rfl
    · cases h
  | .mt m o args, c, Y, e, G, h => by
    unfold ckX at h
    split at h
    · rename_i o' nm apos es p
      simp only [Bool.and_eq_true] at h
      obtain ⟨⟨⟨⟨⟨h1, h2⟩, h3⟩, h4⟩, h5⟩, h6⟩ := h
      have e := of_decide_eq_true h1
      subst e
      have ho := (okX o G h5).1
      have hu : Y.A.units + 1 < cLine := by have := G.un; omega
      have ha := (okXs args G h6).pa
      have pl := ckXs_plain h6
      cases es with
      | nil =>
        cases args with
        | nil => exact eok (e_mt0 hu m ho h2 h4) (fun _ => rfl) rfl
        | cons x xs => simp only [ckXs] at h6; cases h6
      | cons e es =>
        simp only [List.all_cons, Bool.and_eq_true] at pl
        exact eok (e_mt hu m ho ha pl.1 pl.2 h2 (of_decide_eq_true h3) h4) (fun _ => rfl) rfl
    · cases h
  | .lc elt t it cnd own, c, Y, e, G, h => by
    unfold ckX at h
    split at h
    · rename_i elt' tg iter ifs k scope pos
      simp only [Bool.and_eq_true] at h
      obtain ⟨⟨⟨⟨⟨⟨⟨⟨h1, h2⟩, h3⟩, h4⟩, h5⟩, h6⟩, h7⟩, h8⟩, h9⟩ := h
      cases of_decide_eq_true h1
      have blk := blkOk_by h2
      have L : LcOk Y elt' tg iter ifs scope (ownP c.N own) own (slotsT t) (evI cf it) (asg cf t) (ev cf cnd) (ev cf elt) :=
        { calm := G.calm, nd := G.nd, it := okI it G h6, blk := by rw [G.N, G.sc]; exact blk, ow := of_decide_eq_true h3, wo := of_decide_eq_true h4
          tg := fun s H C cl fp => okT t (G.blk blk.kind s H C cl fp) h7
          ts := by
            split at h8
            · refine ⟨tYes, fun σ H Q h => ?_, fun s H C cl fp => pts_nil⟩
              unfold X.isYes at h8
              split at h8
              · exact dc_true h
              · cases h8
            · exact ⟨_, fun _ _ _ h => h, fun s H C cl fp => pts_one (okX cnd (G.blk blk.kind s H C cl fp) h8).2.1⟩
            · cases h8
          el := fun s H C cl fp => (okX elt (G.blk blk.kind s H C cl fp) h9).1
          fs := notSet_ok h5 }
      exact eok (e_lc L) (fun _ => rfl) rfl
    · cases h
  | .dc kx vx t it cnd own, c, Y, e, G, h => by
    unfold ckX at h
    split at h
    · rename_i kx' vx' tg iter ifs k scope pos
      simp only [Bool.and_eq_true] at h
      obtain ⟨⟨⟨⟨⟨⟨⟨⟨⟨h1, h2⟩, h3⟩, h4⟩, h5⟩, h6⟩, h7⟩, h8⟩, h9⟩, h10⟩ := h
      cases of_decide_eq_true h1
      have blk := blkOk_by h2
      have L : LcOk Y kx' tg iter ifs scope (ownP c.N own) own (slotsT t) (evI cf it) (asg cf t) (ev cf cnd) (ev cf kx) :=
        { calm := G.calm, nd := G.nd, it := okI it G h6, blk := by rw [G.N, G.sc]; exact blk, ow := of_decide_eq_true h3, wo := of_decide_eq_true h4
          tg := fun s H C cl fp => okT t (G.blk blk.kind s H C cl fp) h7
          ts := by
            split at h8
            · refine ⟨tYes, fun σ H Q h => ?_, fun s H C cl fp => pts_nil⟩
              unfold X.isYes at h8
              split at h8
              · exact dc_true h
              · cases h8
            · exact ⟨_, fun _ _ _ h => h, fun s H C cl fp => pts_one (okX cnd (G.blk blk.kind s H C cl fp) h8).2.1⟩
            · cases h8
          el := fun s H C cl fp => (okX kx (G.blk blk.kind s H C cl fp) h9).1
          fs := notSet_ok h5 }
      exact eok (e_dc L fun s H C cl fp => (okX vx (G.blk blk.kind s H C cl fp) h10).1) (fun _ => rfl) rfl
    · cases h
  | .lrg args, c, Y, e, G, h => by
    unfold ckX at h
    split at h
    · rename_i x p y p2 es pos2 pos
      simp only [Bool.and_eq_true] at h
      obtain ⟨⟨⟨⟨⟨h1, h2⟩, h3⟩, h4⟩, h5⟩, h6⟩ := h
      have e1 := of_decide_eq_true h1
      have e2 := of_decide_eq_true h3
      subst e1 e2
      obtain ⟨g1, _⟩ := G.gl h2
      obtain ⟨g2, _⟩ := G.gl h4
      have m1 := G.bi "list" (by decide)
      have m2 := G.bi "range" (by decide)
      match args, es, h5, h6 with
      | .cons a .nil, [a'], _, h6 =>
        simp only [ckXs, Bool.and_eq_true] at h6
        refine eok (peI (e_lrg1 G.calm g1 m1 g2 m2 (okX a G h6.1.2).1 h6.1.1) fun σ H Q q => ?_) (fun _ => rfl) rfl
        obtain ⟨ρ, m, S, v, S', re, rs, h, k⟩ := q
        refine ⟨ρ, m, S, v, S', re, rs, ?_, k⟩
        simp only [ev, evs] at h
        obtain ⟨vs, S1, h1, h⟩ := bnd_eq_some h
        obtain ⟨x, S2, h2, h1⟩ := bnd_eq_some h1
        cases h1
        show bnd (ev cf a ρ S) _ = _
        rw [h2]
        exact h
      | .cons a (.cons b .nil), [a', b'], _, h6 =>
        simp only [ckXs, Bool.and_eq_true] at h6
        refine eok (peI (e_lrg2 G.calm g1 m1 g2 m2 (okX a G h6.1.2).1 h6.1.1 (okX b G h6.2.1.2).1 h6.2.1.1) fun σ H Q q => ?_) (fun _ => rfl) rfl
        obtain ⟨ρ, m, S, v, S', re, rs, h, k⟩ := q
        refine ⟨ρ, m, S, v, S', re, rs, ?_, k⟩
        simp only [ev, evs] at h
        obtain ⟨vs, S1, h1, h⟩ := bnd_eq_some h
        obtain ⟨x, S2, h2, h1⟩ := bnd_eq_some h1
        obtain ⟨ys, S3, h3, h1⟩ := bnd_eq_some h1
        obtain ⟨y, S4, h4, h3⟩ := bnd_eq_some h3
        cases h3
        cases h1
        show bnd (ev cf a ρ S) (fun x S1 => bnd (ev cf b ρ S1) fun y S2 => lrgV [x, y] S2) = _
        rw [h2, bnd_some, h4, bnd_some]
        exact h
      | .nil, _, h5, h6 => cases ‹List Expr› <;> first | (cases h6; done) | cases h5
      | .cons _ .nil, [], _, h6 => cases h6
      | .cons _ .nil, _ :: _ :: _, _, h6 => simp [ckXs] at h6
      | .cons _ (.cons _ .nil), [], _, h6 => cases h6
      | .cons _ (.cons _ .nil), [_], _, h6 => simp [ckXs] at h6
      | .cons _ (.cons _ .nil), _ :: _ :: _ :: _, _, h6 => simp [ckXs] at h6
      | .cons _ (.cons _ (.cons _ _)), es, h5, h6 =>
        have := ckXs_len h6
        simp only [Bool.or_eq_true, decide_eq_true_eq] at h5
        simp only [Xs.len] at this
        omega
    · cases h
theorem okXs {cf : CF} : ∀ (xs : Xs) {c : Ct} {Y : Cx} {es : List Expr}, Gd c cf Y → ckXs c xs es = true → VOk Y es (evs cf xs)
  | .nil, c, Y, es, G, h => by
    unfold ckXs at h
    split at h
    · exact .nil
    · cases h
  | .cons x xs, c, Y, es, G, h => by
    unfold ckXs at h
    split at h
    · simp only [Bool.and_eq_true] at h
      exact .cons h.1.1 (okX x G h.1.2).1 (okXs xs G h.2)
    · cases h
theorem okI {cf : CF} : ∀ (it : I) {c : Ct} {Y : Cx} {tg e : Expr}, Gd c cf Y → ckI c it tg e = true → PI Y tg e (rdI Y.K (evI cf it))
  | .ex x, c, Y, tg, e, G, h => i_ex (okX x G (by unfold ckI at h; exact h)).1
  | .rng args, c, Y, tg, e, G, h => by
    unfold ckI at h
    split at h
    · rename_i nm p es p2
      simp only [Bool.and_eq_true] at h
      obtain ⟨⟨⟨h1, h2⟩, h3⟩, h4⟩ := h
      have e := of_decide_eq_true h1
      subst e
      obtain ⟨g1, g2⟩ := G.gl h2
      have ha := (okXs args G h4).pa
      have pl := ckXs_plain h4
      have hl := ckXs_len h4
      have mg := G.bi "range" (by decide)
      have hn : ∀ n, es.length = n → ∀ ρ S vs S1, evs cf args ρ S = some (vs, S1) → vs.length = n := fun n q ρ S vs S1 h => by rw [evs_len h, ← hl, q]
      match es, h3, ha, pl, hn with
      | [a], _, ha, pl, hn => exact i_rng1 g1 mg ha (by simpa using pl) (hn 1 rfl)
      | [a, b], _, ha, pl, hn =>
        simp only [List.all_cons, Bool.and_eq_true] at pl
        exact i_rng2 g1 mg ha pl.1 pl.2.1 (hn 2 rfl)
      | [], h3, _, _, _ => simp at h3
      | _ :: _ :: _ :: _, h3, _, _, _ => simp at h3
    · cases h
  | .enum x, c, Y, tg, e, G, h => by
    unfold ckI at h
    split at h
    · simp only [Bool.and_eq_true] at h
      obtain ⟨⟨⟨⟨h0, h1⟩, h2⟩, h3⟩, h4⟩ := h
      have e := of_decide_eq_true h1
      subst e
      obtain ⟨g1, g2⟩ := G.gl h2
      have mg := G.bi "enumerate" (by decide)
      cases tg with
      | Tuple es k p => exact i_enum g1 mg (okX x G h4).1 h3
      | _ => cases h0
    · cases h
  | .zip xs, c, Y, tg, e, G, h => by
    unfold ckI at h
    split at h
    · rename_i nm p es p2
      simp only [Bool.and_eq_true] at h
      obtain ⟨⟨⟨⟨h0, h1⟩, h2⟩, h3⟩, h4⟩ := h
      have e := of_decide_eq_true h1
      subst e
      obtain ⟨g1, g2⟩ := G.gl h2
      have ha := (okXs xs G h4).pa
      have pl := ckXs_plain h4
      have hl := ckXs_len h4
      have mg := G.bi "zip" (by decide)
      have hn : ∀ n, es.length = n → ∀ ρ S vs S1, evs cf xs ρ S = some (vs, S1) → vs.length = n := fun n q ρ S vs S1 h => by rw [evs_len h, ← hl, q]
      cases tg with
      | Tuple ts k p =>
        match es, h3, ha, pl, hn with
        | [a, b], _, ha, pl, hn =>
          simp only [List.all_cons, Bool.and_eq_true] at pl
          exact i_zip2 g1 mg ha pl.1 pl.2.1 (hn 2 rfl)
        | [a, b, d], _, ha, pl, hn =>
          simp only [List.all_cons, Bool.and_eq_true] at pl
          exact i_zip3 g1 mg ha pl.1 pl.2.1 pl.2.2.1 (hn 3 rfl)
        | [], h3, _, _, _ => simp at h3
        | [_], h3, _, _, _ => simp at h3
        | _ :: _ :: _ :: _ :: _, h3, _, _, _ => simp at h3
      | _ => cases h0
    · cases h
  | .zipn xs, c, Y, tg, e, G, h => by
    unfold ckI at h
    split at h
    · rename_i nm p es p2
      simp only [Bool.and_eq_true] at h
      obtain ⟨⟨⟨⟨h0, h1⟩, h2⟩, h3⟩, h4⟩ := h
      have e := of_decide_eq_true h1
      subst e
      obtain ⟨g1, g2⟩ := G.gl h2
      have ha := (okXs xs G h4).pa
      have pl := ckXs_plain h4
      have hl := ckXs_len h4
      have mg := G.bi "zip" (by decide)
      have hn : ∀ n, es.length = n → ∀ ρ S vs S1, evs cf xs ρ S = some (vs, S1) → vs.length = n := fun n q ρ S vs S1 h => by rw [evs_len h, ← hl, q]
      cases tg with
      | Name ts p =>
        match es, h3, ha, pl, hn with
        | [a, b], _, ha, pl, hn =>
          simp only [List.all_cons, Bool.and_eq_true] at pl
          exact i_zipn2 g1 mg ha pl.1 pl.2.1 (hn 2 rfl)
        | [a, b, d], _, ha, pl, hn =>
          simp only [List.all_cons, Bool.and_eq_true] at pl
          exact i_zipn3 g1 mg ha pl.1 pl.2.1 pl.2.2.1 (hn 3 rfl)
        | [], h3, _, _, _ => simp at h3
        | [_], h3, _, _, _ => simp at h3
        | _ :: _ :: _ :: _ :: _, h3, _, _, _ => simp at h3
      | _ => cases h0
    · cases h
theorem okT {cf : CF} : ∀ (t : T) {c : Ct} {Y : Cx} {e : Expr}, Gd c cf Y → ckT c t e = true → PG Y e (rdG Y.K (slotsT t) (asg cf t))
  | .slot i, c, Y, e, G, h => by
    unfold ckT at h
    split at h
    · simp only [Bool.and_eq_true] at h
      obtain ⟨l1, l2⟩ := loc_of G h.2
      exact g_slot G.nd (G.ix h.1) l1 l2
    · cases h
  | .tup ts, c, Y, e, G, h => by
    unfold ckT at h
    split at h
    · obtain ⟨l1, l2⟩ := ckTs_len h
      exact g_tup G.calm (okTs ts G h) l2 fun vs ρ S r q => by rw [asgs_len q, l1]
    · cases h
  | .sub o i, c, Y, e, G, h => by
    unfold ckT at h
    split at h
    · simp only [Bool.and_eq_true] at h
      have hu := G.un
      exact g_sub (by omega) (okX o G h.1.2).1 (okX i G h.2).1 h.1.1
    · cases h
theorem okTs {cf : CF} : ∀ (ts : Ts) {c : Ct} {Y : Cx} {es : List Expr}, Gd c cf Y → ckTs c ts es = true → PGs Y es (rdGs Y.K (slotsTs ts) (asgs cf ts))
  | .nil, c, Y, es, G, h => by
    unfold ckTs at h
    split at h
    · refine pgsI gs_nil ?_
      rintro xs σ H Q ⟨ρ, m, S, vs, ρ', S', re, rs, rv, h, k⟩
      refine ⟨ρ, m, S, vs, ρ', S', re, rs, rv, ?_, k⟩
      cases vs <;> exact h
    · cases h
  | .cons t ts, c, Y, es, G, h => by
    unfold ckTs at h
    split at h
    · simp only [Bool.and_eq_true] at h
      refine pgsI (gs_cons (okT t G h.1.2) (okTs ts G h.2) h.1.1) ?_
      rintro xs σ H Q ⟨ρ, m, S, vs, ρ', S', re, rs, rv, h, k⟩
      refine ⟨ρ, m, S, vs, ρ', S', re, rs, rv, ?_, k⟩
      cases vs <;> exact h
    · cases h
end
end Rf

/-! Rf12: the check of statements, and what it gives. -/
namespace Rf
open PySem PySem.Spec PyProof.Rows L2

def ckPar (c : Ct) (t : T) (es : Xs) (ts vs : List Expr) : Bool := match t, ts, vs with
  | .tup (.cons (.slot i) (.cons (.slot j) .nil)), [.Name x px, .Name y py], [a, b] =>
    decide (c.N[i]? = some x) && decide (c.N[j]? = some y) && decide (i ≠ j) && decide (c.sc.names.lookup x = some .local) && decide (c.sc.names.lookup y = some .local) && decide (swB c.sc [.Name x px, .Name y py] [a, b] = some (some [x, y])) && ckXs c es [a, b]
  | .tup (.cons (.slot i) (.cons (.slot j) (.cons (.slot l) .nil))), [.Name x px, .Name y py, .Name z pz], [a, b, d] =>
    decide (c.N[i]? = some x) && decide (c.N[j]? = some y) && decide (c.N[l]? = some z) && decide (i ≠ j) && decide (i ≠ l) && decide (j ≠ l) && decide (c.sc.names.lookup x = some .local) && decide (c.sc.names.lookup y = some .local) && decide (c.sc.names.lookup z = some .local) &&
      decide (swB c.sc [.Name x px, .Name y py, .Name z pz] [a, b, d] = some (some [x, y, z])) && ckXs c es [a, b, d]
  | _, _, _ => false
def ckAsg (c : Ct) (t : T) (e : Rf.X) (tg v : Expr) : Bool := match tg with
  | .Name y py => match e with
    | .lc elt t' it cnd own => match v with
      | .ListComp elt' gs scope p => if swV c.sc scope y py p then ckX c (.lc elt t' it cnd own) (.ListComp elt' gs scope p) && (match t with | .slot i => decide (c.N[i]? = some y) | _ => false) else ckX c (.lc elt t' it cnd own) (.ListComp elt' gs scope p) && ckT c t (.Name y py)
      | _ => false
    | e => notComp v && ckX c e v && ckT c t (.Name y py)
  | .Subscript o i p => ckX c e v && ckT c t (.Subscript o i p)
  | .Tuple ts k p => match v with
    | .Tuple vs k2 p2 => match swB c.sc ts vs with
      | none => false
      | some none => ckX c e (.Tuple vs k2 p2) && ckT c t (.Tuple ts k p)
      | some (some _) => match e with
        | .tup es => ckPar c t es ts vs
        | _ => false
    | v => !isTup v && ckX c e v && ckT c t (.Tuple ts k p)
  | _ => false
mutual
def ckS (c : Ct) : Sx → Stmt → Bool
  | .asg t e, st => match st with
    | .Assign [tg] v _ => ckAsg c t e tg v
    | _ => false
  | .ex e, st => match st with
    | .Expr v _ => notComp v && ckX c e v
    | _ => false
  | .ret e, st => match st with
    | .Return (some v) _ => ckX c e v
    | .Return none _ => X.isNon e
    | _ => false
  | .ife t a b, st => match st with
    | .If t' a' b' _ => ckX c t t' && ckB c a a' && ckB c b b'
    | _ => false
  | .loop t it body, st => match st with
    | .For tg iter body' [] _ => notSet iter && ckI c it tg iter && ckT c t tg && ckB c body body'
    | _ => false
  | .whl t body, st => match st with
    | .While t' body' [] _ => ckX c t t' && ckB c body body'
    | _ => false
  | .brk, st => match st with
    | .Break _ => true
    | _ => false
  | .pas, st => match st with
    | .Pass _ => true
    | _ => false
def ckB (c : Ct) : B → List Stmt → Bool
  | .nil, sts => match sts with
    | [] => true
    | _ => false
  | .cons s b, sts => match sts with
    | st :: sts => ckS c s st && ckB c b sts
    | [] => false
end
theorem okLc {cf : CF} {elt : Rf.X} {t : T} {it : I} {cnd : Rf.X} {own : List Nat} {c : Ct} {Y : Cx} {elt' tg iter : Expr} {ifs : List Expr} {k : Int} {scope : Scope} {pos : Pos} (G : Gd c cf Y) (h : ckX c (.lc elt t it cnd own) (.ListComp elt' [⟨tg, iter, ifs, k⟩] scope pos) = true) :
    k = 0 ∧ LcOk Y elt' tg iter ifs scope (ownP c.N own) own (slotsT t) (evI cf it) (asg cf t) (ev cf cnd) (ev cf elt) := by
  unfold ckX at h
  simp only [Bool.and_eq_true] at h
  obtain ⟨⟨⟨⟨⟨⟨⟨⟨h1, h2⟩, h3⟩, h4⟩, h5⟩, h6⟩, h7⟩, h8⟩, h9⟩ := h
  have blk := blkOk_by h2
  exact ⟨of_decide_eq_true h1,
    { calm := G.calm, nd := G.nd, it := okI it G h6, blk := by rw [G.N, G.sc]; exact blk, ow := of_decide_eq_true h3, wo := of_decide_eq_true h4
      tg := fun s H C cl fp => okT t (G.blk blk.kind s H C cl fp) h7
      ts := by
        split at h8
        · refine ⟨tYes, fun σ H Q h => ?_, fun s H C cl fp => pts_nil⟩
          unfold X.isYes at h8
          split at h8
          · exact dc_true h
          · cases h8
        · exact ⟨_, fun _ _ _ h => h, fun s H C cl fp => pts_one (okX cnd (G.blk blk.kind s H C cl fp) h8).2.1⟩
        · cases h8
      el := fun s H C cl fp => (okX elt (G.blk blk.kind s H C cl fp) h9).1
      fs := notSet_ok h5 }⟩
theorem okPar {cf : CF} {t : T} {es : Xs} {ts vs : List Expr} {c : Ct} {Y : Cx} {k k2 : Nat} {p p2 pos : Pos} (G : Gd c cf Y) (h : ckPar c t es ts vs = true) : PS Y (.Assign [.Tuple ts k p] (.Tuple vs k2 p2) pos) (rdS Y.K (dAsg (ev cf (.tup es)) (asg cf t))) := by
  unfold ckPar at h
  split at h
  · rename_i i j x px y py a b
    simp only [Bool.and_eq_true, decide_eq_true_eq] at h
    obtain ⟨⟨⟨⟨⟨⟨h1, h2⟩, h3⟩, h4⟩, h5⟩, h6⟩, h7⟩ := h
    rw [← G.sc] at h4 h5 h6
    rw [← G.N] at h1 h2
    refine s_par G.calm G.nd h1 h2 h3 h4 h5 (okXs es G h7).pa (sw_tup G.kd h6) fun vs ρ S r hr => ?_
    match vs, hr with
    | [v, w], hr => cases hr; exact ⟨v, w, rfl, rfl⟩
    | [], hr => cases hr
    | [_], hr => cases hr
    | _ :: _ :: _ :: _, hr => cases hr
  · rename_i i j l x px y py z pz a b d
    simp only [Bool.and_eq_true, decide_eq_true_eq] at h
    obtain ⟨⟨⟨⟨⟨⟨⟨⟨⟨⟨h1, h2⟩, h3⟩, h4⟩, h5⟩, h6⟩, h7⟩, h8⟩, h9⟩, h10⟩, h11⟩ := h
    rw [← G.sc] at h7 h8 h9 h10
    rw [← G.N] at h1 h2 h3
    refine s_par3 G.calm G.nd h1 h2 h3 h4 h5 h6 h7 h8 h9 (okXs es G h11).pa (sw_tup G.kd h10) fun vs ρ S r hr => ?_
    match vs, hr with
    | [v, w, u], hr => cases hr; exact ⟨v, w, u, rfl, rfl⟩
    | [], hr => cases hr
    | [_], hr => cases hr
    | [_, _], hr => cases hr
    | _ :: _ :: _ :: _ :: _, hr => cases hr
  · cases h
theorem sole {t e : Expr} {l : Nat} {env : PySem.Env} {b : Bool} (h : swapsWith e (some t) l env = pure b) : swapsWithSole [t] e l env = pure b := h
theorem okAsg {cf : CF} {t : T} {e : Rf.X} {c : Ct} {Y : Cx} {tg v : Expr} {pos : Pos} (G : Gd c cf Y) (h : ckAsg c t e tg v = true) : PS Y (.Assign [tg] v pos) (rdS Y.K (dAsg (ev cf e) (asg cf t))) := by
  unfold ckAsg at h
  split at h
  · rename_i y py
    split at h
    · rename_i elt t' it cnd own
      split at h
      · rename_i elt' gs scope p
        split at h
        · rename_i hs
          simp only [Bool.and_eq_true] at h
          obtain ⟨h1, h2⟩ := h
          split at h2
          · rename_i i
            have hs' := hs
            unfold swV at hs'
            simp only [Bool.and_eq_true, beq_iff_eq] at hs'
            have hl := hs'.1.1
            rw [← G.sc] at hl hs
            match gs, h1 with
            | [⟨tg, iter, ifs, k⟩], h1 =>
              obtain ⟨rfl, L⟩ := okLc G h1
              exact s_setLc L (G.ix h2) hl ((swW_lc G.kd).trans (by rw [hs]))
            | [], h1 => simp [ckX] at h1
            | _ :: _ :: _, h1 => simp [ckX] at h1
          · cases h2
        · rename_i hs
          simp only [Bool.and_eq_true] at h
          have hs : swV Y.env.scope scope y py p = false := by rw [G.sc]; simpa using hs
          exact s_asg (okX _ G h.1).1 (okT t G h.2) rfl (sole ((swW_lc G.kd).trans (by rw [hs]))) sw_name
      · cases h
    · simp only [Bool.and_eq_true] at h
      exact s_asg (okX _ G h.1.2).1 (okT t G h.2) rfl (sole (swW h.1.1)) sw_name
  · simp only [Bool.and_eq_true] at h
    exact s_asg (okX _ G h.1).1 (okT t G h.2) rfl (sole swW_sub) sw_sub
  · rename_i ts k p
    split at h
    · rename_i vs k2 p2
      split at h
      · cases h
      · rename_i hs
        simp only [Bool.and_eq_true] at h
        rw [← G.sc] at hs
        exact s_asg (okX _ G h.1).1 (okT t G h.2) rfl (sole swW_tup) (sw_tup G.kd hs)
      · split at h
        · exact okPar G h
        · cases h
    · simp only [Bool.and_eq_true, Bool.not_eq_true'] at h
      exact s_asg (okX _ G h.1.2).1 (okT t G h.2) rfl (sole swW_tup) (sw_no h.1.1)
  · cases h
mutual
theorem okS {cf : CF} {fu : Nat} : ∀ (s : Sx) {c : Ct} {Y : Cx} {st : Stmt}, Gd c cf Y → ckS c s st = true → PS Y st (rdS Y.K (ex cf fu s))
  | .asg t e, c, Y, st, G, h => by
    unfold ckS at h
    split at h
    · exact okAsg G h
    · cases h
  | .ex e, c, Y, st, G, h => by
    unfold ckS at h
    split at h
    · simp only [Bool.and_eq_true] at h
      exact s_expr (okX e G h.2).1 (swW h.1)
    · cases h
  | .ret e, c, Y, st, G, h => by
    unfold ckS at h
    split at h
    · exact s_ret (okX e G h).1
    · unfold X.isNon at h
      split at h
      · exact s_retN
      · cases h
    · cases h
  | .ife t a b, c, Y, st, G, h => by
    unfold ckS at h
    split at h
    · simp only [Bool.and_eq_true] at h
      exact s_if (okX t G h.1.1).2.1 (okB a G h.1.2) (okB b G h.2)
    · cases h
  | .loop t it body, c, Y, st, G, h => by
    unfold ckS at h
    split at h
    · simp only [Bool.and_eq_true] at h
      obtain ⟨⟨⟨h1, h2⟩, h3⟩, h4⟩ := h
      exact s_for G.pass G.calm (okI it G h2) (okT t G h3) (okB body G h4) (notSet_ok h1)
    · cases h
  | .whl t body, c, Y, st, G, h => by
    unfold ckS at h
    split at h
    · simp only [Bool.and_eq_true] at h
      exact s_while G.pass (okX t G h.1).2.1 (okB body G h.2)
    · cases h
  | .brk, c, Y, st, G, h => by
    unfold ckS at h
    split at h
    · exact s_break
    · cases h
  | .pas, c, Y, st, G, h => by
    unfold ckS at h
    split at h
    · exact s_pass
    · cases h
theorem okB {cf : CF} {fu : Nat} : ∀ (b : B) {c : Ct} {Y : Cx} {sts : List Stmt}, Gd c cf Y → ckB c b sts = true → PSs Y sts (rdS Y.K (exs cf fu b))
  | .nil, c, Y, sts, G, h => by
    unfold ckB at h
    split at h
    · exact ss_nil
    · cases h
  | .cons s b, c, Y, sts, G, h => by
    unfold ckB at h
    split at h
    · simp only [Bool.and_eq_true] at h
      exact ss_cons (okS s G h.1) (okB b G h.2)
    · cases h
end
end Rf

/-! Rf13: functions: what a def of the text computes; the law's head. -/
namespace Rf
open PySem PySem.Spec PyProof.Rows L2

/-- what the def at f computes: g -/
structure FnG (P : Program) (w : World) (K : PySem.W.Frag) (mg : Str → Option Value) (base : Heap) (k : Nat) (f : Addr) (fd : FuncData) (ps : List Str) (g : List Val → Store → R Val) : Prop where
  run : ∀ (A : Around) (outer : List PySem.Env) (s : Shared) (H : Hp) (args : Args) (us : List Value) (vs : List V) (Q : VK), Room k A → A.guards = some [] → Env0 P w K mg base A outer s H → BindsTo s fd args (ps.zip us) → Vals vs us → rCB K g vs H Q →
    codeAny (model P w) A (.call (.ref f) args) (fun r s' => ∃ u, r = .ok (.ret u) ∧ CE outer P w H s Q u s') s
  len : ∀ vs S r, g vs S = some r → vs.length = ps.length
theorem FnG.all {P : Program} {w : World} {K : PySem.W.Frag} {mg : Str → Option Value} {base : Heap} {k : Nat} {f : Addr} {fd : FuncData} {ps : List Str} {g : List Val → Store → R Val} (F : FnG P w K mg base k f fd ps g) (hb : Binds K fd ps []) {A : Around} (hr : Room k A) (hg : A.guards = some []) :
    CallAll P w K mg base A (.ref f) g := by
  rintro Y rfl rfl rfl rfl rfl rfl pins s σ H xs us Q I r h
  have hl : (us ++ []).length = ps.length := by
    obtain ⟨m, S, vs, v, S', _, rv, e, _⟩ := h
    rw [List.append_nil, ← r.length, ← rv.length]
    exact F.len _ _ _ e
  have bt := hb s us I.kIn hl
  rw [List.append_nil] at bt
  refine wpAny_call (codeAny_mono (F.run Y.A Y.stack s H ⟨us, []⟩ us xs Q hr hg I.env0 bt r h) fun r s' hq => ?_)
  obtain ⟨u, rfl, c⟩ := hq
  exact I.after c
/-- a def by its text -/
theorem fnG_of {P : Program} {w : World} {K : PySem.W.Frag} {mg : Str → Option Value} {base : Heap} {k : Nat} {f : Addr} {name qual : Str} {params : Arguments} {body : List Stmt} {scope : Scope} {dV kV doc pm cdv ct oc : Value} {an od : Option Addr}
    {osl : Array (Option Value)} {N ps fs : List Str} {D : FD} {cf : CF} {fu : Nat} (lk : K.lookup f = some ⟨oc, od, .func (PySem.W.fnOf name qual params body scope dV kV doc pm an cdv ct), osl⟩) (hcd : PySem.W.codeIn K cdv qual = true) (S : FnScope N ps scope)
    (hnp : D.np = ps.length) (hns : D.ns = N.length) (hck : ckB ⟨N, scope, fun _ => true, fs⟩ D.body body = true) (hbi : ∀ x ∈ biNames, mg x = none)
    (hcalls : ∀ A : Around, Room k A → A.guards = some [] → ∀ (i : Nat) (x : Str), fs[i]? = some x → ∃ fv, mg x = some fv ∧ Cal K fv (cf i) ∧ CallAll P w K mg base A fv (cf i)) :
    FnG P w K mg base (k + 1) f (PySem.W.fnOf name qual params body scope dV kV doc pm an cdv ct) ps (fun vs S => if vs.length = D.np then runB cf fu D vs S else none) := by
  refine ⟨fun A outer s H args us vs Q hr hgu e0 hb r hsp => ?_, fun vs S r h => ?_⟩
  rotate_left
  · split at h
    · rw [← hnp]; assumption
    · cases h
  obtain ⟨m, S0, as, v, S', rs, rv, hrun, kq⟩ := hsp
  dsimp only at hrun
  split at hrun
  rotate_left
  · cases hrun
  rename_i hlen
  have hl : vs.length = ps.length := by rw [← rv.length, hlen, hnp]
  refine codeAny_mono (R := CR CX0 outer P w H s Q (fun _ _ _ => False)) ?_ fun r s' h => ?_
  rotate_left
  · cases r with
    | error e => exact False.elim h
    | ok fl =>
      cases fl with
      | ret u => exact ⟨u, rfl, h⟩
      | next => exact False.elim h
      | brk => exact False.elim h
      | cont => exact False.elim h
  have KX : K.In s.heap := e0.mod.kin.keeps fun b o e => (e0.bs b o e).1
  have lim : s.heap.NoLimit := e0.mod.nolimit.keeps fun b o e => (e0.bs b o e).1
  have hkind : ∀ y ∈ ps.zip us, scope.names.lookup y.1 = some .local ∨ (scope.names.lookup y.1 = some .cell ∧ ((cellsFrom (s.heap.objs.size + 1) scope.names []).lookup y.1).isSome = true) := fun ⟨n, v⟩ hy => by
    rcases S.par n (List.of_mem_zip hy).1 with q | q
    · exact .inl q
    · exact .inr ⟨q, PySem.W.cellsFrom_some _ _ _ (.inl q)⟩
  refine codeAny_call_function hr.depth (KX _ _ lk) rfl S.co S.gen rfl (PySem.W.codeRec_of KX hcd) (hb _ _ _ _ ?_)
  refine wpAny_newFunctionEnv_cells S.kind hkind fun env he s1 x => ?_
  subst he
  refine ⟨lim.keeps x.toInCall.keep, codeAny_func ?_⟩
  have I : Inv (cxOf CX0 P w K mg base N qual scope f cdv A outer s H (fun _ _ _ => False)) [] (L2.start N vs) H s1 := inv_start S hr.hd e0 hl r x
  have rd : Room k (A.deeper (envOfC qual scope s.heap.objs.size f cdv)) := hr.deeper _
  have G : Gd ⟨N, scope, fun _ => true, fs⟩ cf (cxOf CX0 P w K mg base N qual scope f cdv A outer s H (fun _ _ _ => False)).nox :=
    { N := rfl, sc := rfl, nd := S.nd, calm := rfl, fn := fun _ _ => rfl, xe := rfl
      un := by have := rd.un; show (A.deeper (envOfC qual scope s.heap.objs.size f cdv)).units + 65 < cLine; omega
      gu := hgu, kd := S.kind, bi := hbi, fs := hcalls _ rd hgu }
  have ht := (okB (fu := fu) D.body G hck).nox
  have hq : rdS K (exs cf fu D.body) { nx := fun _ H' => Q .non H', rt := Q } (L2.start N vs) H := by
    have re : RE m H (startE D as) (L2.start N vs) := by
      unfold startE L2.start
      refine ⟨?_, fun i v h => ?_⟩
      · rw [List.length_append, List.length_append, List.length_map, List.length_map, List.length_replicate, List.length_replicate, rv.length, hnp, hns, hl]
      · by_cases hi : i < as.length
        · rw [List.getElem?_append_left (by simpa using hi), List.getElem?_map] at h
          have e1 := List.getElem?_eq_getElem hi
          rw [e1] at h
          cases h
          obtain ⟨x, hx, rx⟩ := rv.get e1
          refine ⟨x, ?_, rx⟩
          rw [List.getElem?_append_left (by rw [List.length_map]; exact (List.getElem?_eq_some_iff.mp hx).1), List.getElem?_map, hx]
          rfl
        · rw [List.getElem?_append_right (by simpa using hi), List.getElem?_replicate] at h
          split at h <;> cases h
    unfold runB at hrun
    split at hrun
    · rename_i w2 ρ2 S2 e2
      cases hrun
      exact ⟨_, m, S0, _, ρ2, _, re, rs, e2, fun x m' H' x1 s1 r1 => kq x m' H' x1 s1 r1⟩
    · rename_i ρ2 S2 e2
      cases hrun
      exact ⟨_, m, S0, _, ρ2, _, re, rs, e2, fun σ' m' H' x1 s1 r1 => kq .non m' H' x1 s1 .non⟩
    · cases hrun
  refine wpAny_mono (ht.run [] s1 (L2.start N vs) H _ I hq) (fun fl s' hs => ?_) fun e s' hs => hs
  have fin : ∀ {σ' : L2.St} {H' : Hp} {v : V} {u : Value}, Inv (cxOf CX0 P w K mg base N qual scope f cdv A outer s H (fun _ _ _ => False)) [] σ' H' s' → RelV v u → Q v H' → CE outer P w H s Q u s' :=
    fun {σ' H' v u} J rv q => ⟨v, H', J.os, J.bare, J.base, J.hok, rv, q⟩
  cases fl with
  | ret u =>
    obtain ⟨v, σ', H', J, rv, q⟩ := hs
    exact fin J rv q
  | next =>
    obtain ⟨σ', H', J, q⟩ := hs
    exact fin (v := V.non) (u := Value.none) J rfl q
  | brk =>
    obtain ⟨_, _, _, q⟩ := hs
    exact False.elim q
  | cont =>
    obtain ⟨_, _, _, q⟩ := hs
    exact False.elim q
end Rf

/-! Rf14: all defs of the text by the depth of calls; the law's head. -/
namespace Rf
open PySem PySem.Spec PyProof.Rows L2

/-- a def of the text as it stands behind the top, and its term -/
structure Fact (K : PySem.W.Frag) (mg : Str → Option Value) (fs : List Str) (D : FD) (x : Str) : Prop where
  ex : ∃ (fa : Addr) (oc : Value) (od : Option Addr) (name qual : Str) (params : Arguments) (body : List Stmt) (scope : Scope) (dV kV doc pm cdv ct : Value) (an : Option Addr) (osl : Array (Option Value)) (N ps : List Str),
    mg x = some (.ref fa) ∧ PySem.W.keepIn K (.ref fa) = true ∧ K.lookup fa = some ⟨oc, od, .func (PySem.W.fnOf name qual params body scope dV kV doc pm an cdv ct), osl⟩ ∧ PySem.W.codeIn K cdv qual = true ∧ FnScope N ps scope ∧
    Binds K (PySem.W.fnOf name qual params body scope dV kV doc pm an cdv ct) ps [] ∧ D.np = ps.length ∧ D.ns = N.length ∧ ckB ⟨N, scope, fun _ => true, fs⟩ D.body body = true
/-! math.comb, of small numbers -/
def failB : B := .cons (.ex (.idx (.tup .nil) (.k (.int 0)))) .nil
def combT : List Val := (List.range 16).map fun a : Nat => .tup ((List.range 16).map fun b : Nat => .int (PySem.W.mcComb (a : Int) (b : Int)))
def DComb : FD := ⟨2, 2, .cons (.ife (.cmp .lt (.slot 0) (.k (.int 0))) failB .nil) (.cons (.ife (.cmp .lt (.slot 1) (.k (.int 0))) failB .nil) (.cons (.ret (.idx (.idx (.k (.tup combT)) (.slot 0)) (.slot 1))) .nil))⟩
theorem bnd_some' {α β : Type} {x : α} {S : Store} {f : α → Store → R β} : bnd (some (x, S)) f = f x S := rfl
theorem lt_inv {v : Val} {i : Int} {S : Store} {q : Bool} (h : cmpV .lt v (.int i) S = some q) : ∃ a, v = .int a ∧ q = decide (a < i) := by
  cases v with
  | int a => exact ⟨a, rfl, (Option.some.inj h).symm⟩
  | _ => cases h
theorem fail_none {cf : CF} {fu : Nat} {ρ : Env} {S : Store} : exs cf fu failB ρ S = none := by
  have e : ∀ S, ixV (.tup []) (.int 0) S = none := fun S => rfl
  show (match (bnd (bnd (newT [] S) fun x S1 => (match ixV x (.int 0) S1 with | some v => some (v, S1) | none => none)) fun _ S1 => some (Flow.nx, ρ, S1) : R3) with | none => none | some (.nx, ρ1, S1) => exs cf fu .nil ρ1 S1 | some (.bk, ρ1, S1) => some (.bk, ρ1, S1) | some (.ret v, ρ1, S1) => some (.ret v, ρ1, S1)) = none
  rw [show newT [] S = some (.tup [], S) from if_pos (Nat.zero_le _), bnd_some', e]
  rfl
theorem at_in {α : Type} {xs : List α} {a : Int} {x : α} (h0 : 0 ≤ a) (h : atI xs a = some x) : ∃ n : Nat, a = n ∧ xs[n]? = some x := by
  obtain ⟨n, rfl⟩ : ∃ n : Nat, a = n := ⟨a.toNat, by omega⟩
  refine ⟨n, rfl, ?_⟩
  unfold atI ixN at h
  rw [if_pos (by omega)] at h
  by_cases hk : (n : Int) < xs.length
  · rw [if_pos hk] at h; simpa using h
  · rw [if_neg hk] at h; cases h
theorem guard_inv {cf : CF} {fu i : Nat} {ρ : Env} {S : Store} {v : Val} {b : B} {r : Flow × Env × Store} (hi : ρ[i]? = some (some v)) (h : exs cf fu (.cons (.ife (.cmp .lt (.slot i) (.k (.int 0))) failB .nil) b) ρ S = some r) : (∃ a : Int, v = .int a ∧ 0 ≤ a) ∧ exs cf fu b ρ S = some r := by
  have es : ev cf (.slot i) ρ S = some (v, S) := by show (match ρ[i]? with | some (some v) => some (v, S) | _ => none) = _; rw [hi]
  have ec : ev cf (.cmp .lt (.slot i) (.k (.int 0))) ρ S = (match cmpV .lt v (.int 0) S with | some c => some (.bl c, S) | none => none) := by
    show bnd (ev cf (.slot i) ρ S) _ = _
    rw [es]; rfl
  have eu : exs cf fu (.cons (.ife (.cmp .lt (.slot i) (.k (.int 0))) failB .nil) b) ρ S = (match bnd (ev cf (.cmp .lt (.slot i) (.k (.int 0))) ρ S) (fun x S1 => match x with | .bl true => exs cf fu failB ρ S1 | .bl false => exs cf fu .nil ρ S1 | _ => none) with
    | none => none | some (.nx, ρ1, S1) => exs cf fu b ρ1 S1 | some (.bk, ρ1, S1) => some (.bk, ρ1, S1) | some (.ret v, ρ1, S1) => some (.ret v, ρ1, S1)) := rfl
  rw [eu, ec] at h
  cases hq : cmpV .lt v (.int 0) S with
  | none => rw [hq] at h; cases h
  | some q =>
    obtain ⟨a, rfl, rfl⟩ := lt_inv hq
    rw [hq] at h
    by_cases ha : a < 0
    · rw [decide_eq_true ha] at h
      have h' : (match exs cf fu failB ρ S with | none => none | some (.nx, ρ1, S1) => exs cf fu b ρ1 S1 | some (.bk, ρ1, S1) => some (.bk, ρ1, S1) | some (.ret v, ρ1, S1) => some (.ret v, ρ1, S1)) = some r := h
      rw [fail_none] at h'; cases h'
    · rw [decide_eq_false ha] at h
      exact ⟨⟨a, rfl, by omega⟩, h⟩
theorem comb_inv {cf : CF} {fu : Nat} {va vb : Val} {S S' : Store} {v : Val} (h : runB cf fu DComb [va, vb] S = some (v, S')) : ∃ a b : Nat, va = .int (a : Int) ∧ vb = .int (b : Int) ∧ a < 16 ∧ b < 16 ∧ v = .int (PySem.W.mcComb (a : Int) (b : Int)) ∧ S' = S := by
  have h' : (match exs cf fu DComb.body [some va, some vb] S with | some (.ret v, _, S') => some (v, S') | some (.nx, _, S') => some (.non, S') | _ => none) = some (v, S') := h
  cases hx : exs cf fu DComb.body [some va, some vb] S with
  | none => rw [hx] at h'; cases h'
  | some r =>
    obtain ⟨⟨a, rfl, ha⟩, h1⟩ := guard_inv (i := 0) rfl hx
    obtain ⟨⟨b, rfl, hb⟩, h2⟩ := guard_inv (i := 1) rfl h1
    have e1 : exs cf fu (.cons (.ret (.idx (.idx (.k (.tup combT)) (.slot 0)) (.slot 1))) .nil) [some (.int a), some (.int b)] S = (match bnd (bnd (match atI combT a with | some v => some (v, S) | none => none) fun x S1 => (match ixV x (.int b) S1 with | some v => some (v, S1) | none => none)) (fun v S1 => some (Flow.ret v, ([some (.int a), some (.int b)] : Env), S1)) with
      | none => none | some (.nx, ρ1, S1) => exs cf fu .nil ρ1 S1 | some (.bk, ρ1, S1) => some (.bk, ρ1, S1) | some (.ret v, ρ1, S1) => some (.ret v, ρ1, S1)) := rfl
    rw [e1] at h2
    cases hp : atI combT a with
    | none => rw [hp] at h2; cases h2
    | some row =>
      obtain ⟨n, rfl, hn⟩ := at_in ha hp
      have hn16 : n < 16 := by
        have := (List.getElem?_eq_some_iff.mp hn).1
        simpa [combT] using this
      have hrow : row = .tup ((List.range 16).map fun b : Nat => .int (PySem.W.mcComb (n : Int) (b : Int))) := by
        unfold combT at hn
        rw [List.getElem?_map, List.getElem?_range hn16] at hn
        exact (Option.some.inj hn).symm
      subst hrow
      rw [hp] at h2
      cases hp2 : atI ((List.range 16).map fun b : Nat => Val.int (PySem.W.mcComb (n : Int) (b : Int))) b with
      | none =>
        have h3 : (match (bnd (match atI ((List.range 16).map fun b : Nat => Val.int (PySem.W.mcComb (n : Int) (b : Int))) b with | some v => some (v, S) | none => none) (fun v S1 => some (Flow.ret v, ([some (.int (n : Int)), some (.int b)] : Env), S1)) : R3) with
          | none => none | some (.nx, ρ1, S1) => exs cf fu .nil ρ1 S1 | some (.bk, ρ1, S1) => some (.bk, ρ1, S1) | some (.ret v, ρ1, S1) => some (.ret v, ρ1, S1)) = some r := h2
        rw [hp2] at h3; cases h3
      | some w =>
        obtain ⟨m, rfl, hm⟩ := at_in hb hp2
        have hm16 : m < 16 := by
          have := (List.getElem?_eq_some_iff.mp hm).1
          simpa using this
        have hw : w = .int (PySem.W.mcComb (n : Int) (m : Int)) := by
          rw [List.getElem?_map, List.getElem?_range hm16] at hm
          exact (Option.some.inj hm).symm
        subst hw
        have h3 : (match (bnd (match atI ((List.range 16).map fun b : Nat => Val.int (PySem.W.mcComb (n : Int) (b : Int))) (m : Int) with | some v => some (v, S) | none => none) (fun v S1 => some (Flow.ret v, ([some (.int (n : Int)), some (.int (m : Int))] : Env), S1)) : R3) with
          | none => none | some (.nx, ρ1, S1) => exs cf fu .nil ρ1 S1 | some (.bk, ρ1, S1) => some (.bk, ρ1, S1) | some (.ret v, ρ1, S1) => some (.ret v, ρ1, S1)) = some r := h2
        rw [hp2] at h3
        cases h3
        rw [hx] at h'
        cases h'
        exact ⟨n, m, rfl, rfl, hn16, hm16, rfl, rfl⟩
/-- its value, in the table's range -/
theorem comb_run {cf : CF} {fu a b : Nat} {S : Store} (ha : a < 16) (hb : b < 16) : runB cf fu DComb [.int (a : Int), .int (b : Int)] S = some (.int (PySem.W.mcComb (a : Int) (b : Int)), S) := by
  have g : ∀ (n : Nat), decide ((n : Int) < 0) = false := fun n => decide_eq_false (by omega)
  have p1 : atI combT (a : Int) = some (.tup ((List.range 16).map fun b : Nat => .int (PySem.W.mcComb (a : Int) (b : Int)))) := by
    unfold atI ixN
    rw [if_pos (by omega), if_pos (by simp [combT]; omega)]
    show combT[a]? = _
    unfold combT
    rw [List.getElem?_map, List.getElem?_range ha]; rfl
  have p2 : atI ((List.range 16).map fun b : Nat => Val.int (PySem.W.mcComb (a : Int) (b : Int))) (b : Int) = some (.int (PySem.W.mcComb (a : Int) (b : Int))) := by
    unfold atI ixN
    rw [if_pos (by omega), if_pos (by simp; omega)]
    show ((List.range 16).map fun b : Nat => Val.int (PySem.W.mcComb (a : Int) (b : Int)))[b]? = _
    rw [List.getElem?_map, List.getElem?_range hb]; rfl
  have guard : ∀ (i n : Nat) (ρ : Env) (b : B), ρ[i]? = some (some (.int (n : Int))) → exs cf fu (.cons (.ife (.cmp .lt (.slot i) (.k (.int 0))) failB .nil) b) ρ S = exs cf fu b ρ S := by
    intro i n ρ b hi
    have es : ev cf (.slot i) ρ S = some (.int (n : Int), S) := by show (match ρ[i]? with | some (some v) => some (v, S) | _ => none) = _; rw [hi]
    have ec : ev cf (.cmp .lt (.slot i) (.k (.int 0))) ρ S = some (.bl false, S) := by
      show bnd (ev cf (.slot i) ρ S) _ = _
      rw [es]
      show some (Val.bl (decide ((n : Int) < 0)), S) = _
      rw [g]
    show (match bnd (ev cf (.cmp .lt (.slot i) (.k (.int 0))) ρ S) (fun x S1 => match x with | .bl true => exs cf fu failB ρ S1 | .bl false => exs cf fu .nil ρ S1 | _ => none) with
      | none => none | some (.nx, ρ1, S1) => exs cf fu b ρ1 S1 | some (.bk, ρ1, S1) => some (.bk, ρ1, S1) | some (.ret v, ρ1, S1) => some (.ret v, ρ1, S1)) = _
    rw [ec]; rfl
  show (match exs cf fu DComb.body [some (.int (a : Int)), some (.int (b : Int))] S with | some (.ret v, _, S') => some (v, S') | some (.nx, _, S') => some (.non, S') | _ => none) = _
  unfold DComb
  rw [guard 0 a _ _ rfl, guard 1 b _ _ rfl]
  show (match (match bnd (bnd (match atI combT (a : Int) with | some v => some (v, S) | none => none) fun x S1 => (match ixV x (.int (b : Int)) S1 with | some v => some (v, S1) | none => none)) (fun v S1 => some (Flow.ret v, ([some (.int (a : Int)), some (.int (b : Int))] : Env), S1)) with
      | none => none | some (.nx, ρ1, S1) => exs cf fu .nil ρ1 S1 | some (.bk, ρ1, S1) => some (.bk, ρ1, S1) | some (.ret v, ρ1, S1) => some (.ret v, ρ1, S1)) with | some (.ret v, _, S') => some (v, S') | some (.nx, _, S') => some (.non, S') | _ => none) = _
  rw [p1]
  show (match (match (bnd (match atI ((List.range 16).map fun b : Nat => Val.int (PySem.W.mcComb (a : Int) (b : Int))) (b : Int) with | some v => some (v, S) | none => none) (fun v S1 => some (Flow.ret v, ([some (.int (a : Int)), some (.int (b : Int))] : Env), S1)) : R3) with
      | none => none | some (.nx, ρ1, S1) => exs cf fu .nil ρ1 S1 | some (.bk, ρ1, S1) => some (.bk, ρ1, S1) | some (.ret v, ρ1, S1) => some (.ret v, ρ1, S1)) with | some (.ret v, _, S') => some (v, S') | some (.nx, _, S') => some (.non, S') | _ => none) = _
  rw [p2]; rfl
structure Facts (K : PySem.W.Frag) (mg : Str → Option Value) (fs : List Str) (tbl : List FD) : Prop where
  fn : ∀ (i : Nat) (x : Str), fs[i]? = some x → ∃ D, tbl[i]? = some D ∧ (Fact K mg fs D x ∨ (mg x = some (.builtin "math.comb") ∧ D = DComb))
  bi : ∀ x ∈ biNames, mg x = none
section
variable {P : Program} {w : World} {K : PySem.W.Frag} {mg : Str → Option Value} {base : Heap} {fs : List Str} {tbl : List FD} {fu : Nat}
theorem comb_ok {A : Around} {i d : Nat} (hD : tbl[i]? = some DComb) : CallAll P w K mg base A (.builtin "math.comb") (callF tbl fu d i) := by
  intro Y _ _ _ _ _ _ pins s σ H xs us Q I r h
  obtain ⟨m, S, vs, v, S', rs, rv, e, kq⟩ := h
  cases d with
  | zero => cases e
  | succ d =>
    have e' : (if vs.length = 2 then runB (callF tbl fu d) fu DComb vs S else none) = some (v, S') := by
      have q : callF tbl fu (d + 1) i vs S = (match tbl[i]? with | some F => if vs.length = F.np then runB (callF tbl fu d) fu F vs S else none | none => none) := rfl
      rw [q, hD] at e
      exact e
    split at e'
    rotate_left
    · cases e'
    rename_i hl
    match vs, hl with
    | [va, vb], _ =>
      obtain ⟨a, b, rfl, rfl, ha, hb, rfl, rfl⟩ := comb_inv e'
      cases rv with
      | cons r1 rv =>
        cases rv with
        | cons r2 rv =>
          cases rv
          cases r1
          cases r2
          obtain ⟨t, u, rfl⟩ := Vals.int2 r
          exact PySem.W.mc_comb (by omega) (by omega) (by omega) (.inl (by omega)) fun _ => ⟨.int _, H, I.tok _, ⟨_, rfl⟩, kq.now rs (.int _)⟩
theorem all_ok (T : Facts K mg fs tbl) : ∀ (d : Nat) (A : Around), Room d A → A.guards = some [] → ∀ (i : Nat) (x : Str), fs[i]? = some x → ∃ fv, mg x = some fv ∧ Cal K fv (callF tbl fu d i) ∧ CallAll P w K mg base A fv (callF tbl fu d i)
  | d, A, hr, hg, i, x, hx => by
    obtain ⟨D, hD, hF⟩ := T.fn i x hx
    rcases hF with hF | ⟨hm, rfl⟩
    rotate_left
    · refine ⟨_, hm, .inr ⟨⟨_, rfl⟩, fun S => ?_⟩, comb_ok hD⟩
      cases d with
      | zero => rfl
      | succ d =>
        show (match tbl[i]? with | some F => if ([] : List Val).length = F.np then runB (callF tbl fu d) fu F [] S else none | none => none) = none
        rw [hD]; rfl
    obtain ⟨fa, oc, od, name, qual, params, body, scope, dV, kV, doc, pm, cdv, ct, an, osl, N, ps, e1, e2, e3, e4, e5, e6, e7, e8, e9⟩ := hF
    refine ⟨.ref fa, e1, .inl ⟨fa, rfl, e2⟩, ?_⟩
    cases d with
    | zero =>
      intro Y _ _ _ _ _ _ pins s σ H xs us Q I r h
      obtain ⟨m, S, vs, v, S', _, _, z, _⟩ := h
      cases z
    | succ d =>
      have F := fnG_of (P := P) (w := w) (base := base) (k := d) (cf := callF tbl fu d) (fu := fu) e3 e4 e5 e7 e8 e9 T.bi (all_ok T d)
      have e : callF tbl fu (d + 1) i = fun vs S => if vs.length = D.np then runB (callF tbl fu d) fu D vs S else none := by
        funext vs S
        show (match tbl[i]? with | some F => if vs.length = F.np then runB (callF tbl fu d) fu F vs S else none | none => none) = _
        rw [hD]
      rw [e]
      exact F.all e6 hr hg
theorem law_ok (T : Facts K mg fs tbl) {d i : Nat} {x : Str} (hx : fs[i]? = some x) (h1 : ∃ D, tbl[i]? = some D ∧ D.np = 1) : ∃ (fa : Addr) (fd : FuncData) (ps : List Str), mg x = some (.ref fa) ∧ Binds K fd ps [] ∧ ps.length = 1 ∧ ∀ base, FnG P w K mg base (d + 1) fa fd ps (callF tbl fu (d + 1) i) := by
  obtain ⟨D, hD, hF⟩ := T.fn i x hx
  obtain ⟨D', hD', h1⟩ := h1
  rw [hD] at hD'; cases hD'
  rcases hF with hF | ⟨hm, rfl⟩
  rotate_left
  · cases h1
  obtain ⟨fa, oc, od, name, qual, params, body, scope, dV, kV, doc, pm, cdv, ct, an, osl, N, ps, e1, e2, e3, e4, e5, e6, e7, e8, e9⟩ := hF
  refine ⟨fa, _, ps, e1, e6, by rw [← e7, h1], fun base => ?_⟩
  have F := fnG_of (P := P) (w := w) (base := base) (k := d) (cf := callF tbl fu d) (fu := fu) e3 e4 e5 e7 e8 e9 T.bi (all_ok T d)
  have e : callF tbl fu (d + 1) i = fun vs S => if vs.length = D.np then runB (callF tbl fu d) fu D vs S else none := by
    funext vs S
    show (match tbl[i]? with | some F => if vs.length = F.np then runB (callF tbl fu d) fu F vs S else none | none => none) = _
    rw [hD]
  rw [e]
  exact F
end
/-- the world at the law's call -/
theorem rs_start {K : PySem.W.Frag} {H : Hp} {a : Addr} {ns : List Int} (hO : Only H) (hS : SqL K H a (ns.map V.int)) : RS K [a] [.lst true (ns.map .int)] H := by
  have ko : H a = none → KO K ns a := fun h => by
    rcases hS with h' | ⟨o, its, n, z⟩
    · rcases h' with h' | ⟨o, h'⟩
      · rw [h] at h'; cases h'
      · rw [h] at h'; cases h'
    · exact ⟨o, its, n, z⟩
  have one : ∀ {n : Nat} {b : Addr}, ([a] : List Addr)[n]? = some b → n = 0 ∧ b = a := fun {n b} h => by
    cases n with
    | zero => cases h; exact ⟨rfl, rfl⟩
    | succ n => simp at h
  refine ⟨rfl, fun n o b h1 h2 => ?_, fun n b h1 h2 => ?_, fun n n' b hne h1 h2 => ?_, ⟨ns, a, rfl, rfl, ?_⟩⟩
  · obtain ⟨rfl, rfl⟩ := one h2
    cases h1
    exact ⟨_, hS, rvs_ints ns⟩
  · obtain ⟨rfl, rfl⟩ := one h1
    exact ⟨rfl, ns, rfl, ko h2⟩
  · exact absurd ((one h1).1.trans (one h2).1.symm) hne
  · rcases hO a with h | ⟨o, xs, h⟩
    · exact .inl (ko h)
    · exact .inr ⟨o, _, h⟩
theorem law_callG {P : Program} {w : World} {K : PySem.W.Frag} {mg mb : Str → Option Value} {k : Nat} {fa a : Addr} {fd : FuncData} {ps : List Str} {g : List Val → Store → R Val} {s₁ : Shared} {vs : List Value} {ns : List Int} {S' : Store}
    (KX : K.In s₁.heap) (hns : s₁.heap.Ns mainGlobals mg) (hb : s₁.heap.Ns builtinsNs mb) (hbb : ∀ x : Str, x ≠ "__name__" → mb x = bootBuiltins x) (hlim : s₁.heap.NoLimit) (hg : s₁.gens = #[])
    (ha : s₁.heap.get? a = some { cls := .type "list", data := .seq vs.toArray }) (hi : IntsAre vs ns) (hl : ns.length ≤ sizeLine) (hr : Room k callerA)
    (F : ∀ base : Heap, FnG P w K mg base k fa fd ps g) (hbind : Binds K fd ps []) (hps : ps.length = 1) (hrun : g [.ref 0] [.lst true (ns.map .int)] = some (.bl true, S')) :
    codeAny (model P w) callerA (.call (.ref fa) ⟨[.ref a], []⟩) (fun r s' => r = .ok (.ret (.bool true)) ∧ OldK s₁.heap s'.heap ∧ s'.os = s₁.os ∧ AllBare s'.gens) s₁ := by
  have rv := vals_ints hi
  have lenV := hi.length
  have core : ∀ H : Hp, Only H → SqL K H a (ns.map V.int) → HOk P w H s₁.heap → (∀ b, H b ≠ none → b = a) → (H a ≠ none → K.lookup a = none) →
      codeAny (model P w) callerA (.call (.ref fa) ⟨[.ref a], []⟩) (fun r s' => r = .ok (.ret (.bool true)) ∧ OldK s₁.heap s'.heap ∧ s'.os = s₁.os ∧ AllBare s'.gens) s₁ := by
    intro H hO hS hok hA hK
    have base_of : ∀ {b : Addr} {o : PySem.Obj}, s₁.heap.get? b = some o → H b = none → (hidT s₁.heap H).get? b = some o := fun e n => hidT_get e n
    have noA : ∀ {b : Addr} {o : PySem.Obj} {es : Array DictEntry} {ep : Nat}, s₁.heap.get? b = some o → o.data = .dict es ep → H b = none := fun {b o es ep} e d => by
      cases q : H b with
      | none => rfl
      | some u =>
        have e' : b = a := hA b (by rw [q]; simp)
        subst e'
        rw [ha] at e; cases e
        have d' : Data.seq vs.toArray _ = Data.dict es ep := d
        cases d'
    have nsK : ∀ {b : Addr} {m : Str → Option Value}, s₁.heap.Ns b m → (hidT s₁.heap H).Ns b m := fun {b m} ⟨o, es, ep, e, d, r⟩ => ⟨o, es, ep, base_of e (noA e d), d, r⟩
    have hKb : K.In (hidT s₁.heap H) := fun b o e => base_of (KX b o e) (by
      cases q : H b with
      | none => rfl
      | some u =>
        have e' : b = a := hA b (by rw [q]; simp)
        subst e'
        rw [hK (by rw [q]; simp)] at e; cases e)
    have hM : Mod K mg (hidT s₁.heap H) := ⟨hKb, nsK hns, ⟨mb, nsK hb, hbb⟩, let ⟨mc, h1, h2⟩ := hlim; ⟨mc, nsK h1, h2⟩⟩
    have e0 : Env0 P w K mg (hidT s₁.heap H) callerA [] s₁ H := ⟨rfl, hM, fun b o e => of_hidT e, Nat.le_of_eq (hidT_size _ _), trivial, fun b hb => absurd (show b ∈ ([] : List Addr) from hb) (by simp), hok, .of_eq hg⟩
    have bt := hbind s₁ [.ref a] KX (by rw [hps]; rfl)
    rw [List.append_nil] at bt
    have sp : rCB K g [.ref a] H (fun v _ => v = .bl true) := ⟨[a], _, [.ref 0], .bl true, S', rs_start hO hS, .cons (.ref rfl) .nil, hrun, fun x m' H' _ _ r => by cases r; rfl⟩
    refine codeAny_mono ((F _).run callerA [] s₁ H ⟨[.ref a], []⟩ [.ref a] [.ref a] _ hr rfl e0 bt (.cons rfl .nil) sp) fun r s' h => ?_
    obtain ⟨u, rfl, v, H', os, bare, un, hok', r', q⟩ := h
    have q' : v = .bl true := q
    subst q'
    obtain rfl : u = Value.bool true := r'
    refine ⟨rfl, OldK.of_keep fun b o e => ?_, os, bare⟩
    cases q : H b with
    | none => exact un.keep b o e q (by intro z; exact absurd (show b ∈ ([] : List Addr) from z) (by simp)) (by simp)
    | some u =>
      rcases hO b with z | ⟨ob, xs, z⟩
      · rw [q] at z; cases z
      · have z2 := un.frzs b ob _ z
        obtain ⟨e1, _⟩ := hok b _ z
        obtain ⟨e2, _⟩ := hok' b _ z2
        rw [e] at e1; cases e1
        exact e2
  cases hk : K.lookup a with
  | some o =>
    have e := KX a o hk
    rw [ha] at e
    cases e
    refine core (fun _ => none) (fun _ => .inl rfl) (.inr ⟨_, vs.toArray, _, hk, rfl, rfl, rfl, by rw [List.size_toArray, lenV]; exact hl, by simpa using rv⟩) (fun b u z => by have z' : (none : Option HO) = some u := z; cases z') (fun b z => absurd rfl z) fun z => absurd rfl z
  | none =>
    refine core (fun b => if b = a then some (.frz { cls := .type "list", data := .seq vs.toArray } (.lst (ns.map V.int))) else none) (fun b => ?_) (.inl (.inr ⟨{ cls := .type "list", data := .seq vs.toArray }, if_pos rfl⟩)) (fun b u z => ?_) (fun b z => ?_) fun _ => hk
    · by_cases hb : b = a
      · exact .inr ⟨_, _, if_pos hb⟩
      · exact .inl (if_neg hb)
    · by_cases hb : b = a
      · have z' := (if_pos hb).symm.trans z
        cases z'
        subst hb
        exact ⟨ha, by rw [List.length_map]; exact hl, vs, _, rv, ha⟩
      · have z' := (if_neg hb).symm.trans z
        cases z'
    · by_cases hb : b = a
      · exact hb
      · exact absurd (if_neg hb) z
/-- the goal that k_head leaves (case hc) -/
theorem walkG {l : PySem.W.OpenLaw} {n : Nat} {q : Program} {loose : List Str} {XP : (Str → Option Value) → Heap → Prop} {YP : World → Heap → Prop} {d : DefRec} {K : Params → PySem.W.Frag} {fs : List Str} {tbl : List FD} {fu dp i : Nat}
    (hn : l.most = some n) (hn2 : n ≤ sizeLine) (hdf : d.params.defaults = []) (hr : Room (dp + 1) callerA)
    (hY : ∀ (w : World) (h : Heap), YP w h → (K w.params).In h)
    (F : ∀ (w : World) (mg : Str → Option Value) (h : Heap), (K w.params).In h → h.Ns mainGlobals mg → Facts (K w.params) mg fs tbl)
    (hi : fs[i]? = some d.name) (h1 : ∃ D, tbl[i]? = some D ∧ D.np = 1)
    (hrun : ∀ ns : List Int, ns.length ≤ n → ∃ S', callF tbl fu (dp + 1) i [.ref 0] [.lst true (ns.map .int)] = some (.bl true, S')) :
    PySem.W.WalkO q loose XP YP l.row.toRowW d [] (fun f vs => PySem.call f vs) := by
  refine Att.attach_call hn hdf fun w s₀ s₁ mg mb fa o pm cd doc a vs ns G Y ho hd hcd hmg hobj hints hlen hg => ?_
  have KX := hY w _ Y
  obtain ⟨fa', fd, ps, e1, hb, hps, hF⟩ := law_ok (P := l.prog) (w := w) (fu := fu) (d := dp) (F w mg _ KX G.T.g) hi h1
  rw [hmg] at e1
  cases e1
  obtain ⟨S', hS'⟩ := hrun ns hlen
  exact law_callG KX G.T.g G.T.b G.T.builtins G.T.nolimit hg hobj hints (Nat.le_trans hlen hn2) hr hF hb hps hS'
end Rf

/-! Rf15: plain lemmas about what the small language computes. No model in sight. -/
namespace Rf
open PySem L2

theorem callF_at {tbl : List FD} {fu d f : Nat} {F : FD} {args : List Val} {S : Store} (h : tbl[f]? = some F) (hl : args.length = F.np) : callF tbl fu (d + 1) f args S = runB (callF tbl fu d) fu F args S := by
  show (match tbl[f]? with | some F => if args.length = F.np then runB (callF tbl fu d) fu F args S else none | none => none) = _
  rw [h]
  exact if_pos hl
/-- a later store that keeps all -/
def Le (S S' : Store) : Prop := ∃ T, S' = S ++ T
theorem Le.refl (S : Store) : Le S S := ⟨[], by simp⟩
theorem Le.trans {S1 S2 S3 : Store} (a : Le S1 S2) (b : Le S2 S3) : Le S1 S3 := by
  obtain ⟨T, rfl⟩ := a
  obtain ⟨T2, rfl⟩ := b
  exact ⟨T ++ T2, by simp⟩
theorem Le.add (S T : Store) : Le S (S ++ T) := ⟨T, rfl⟩
theorem Le.get {S S' : Store} (a : Le S S') {n : Nat} {o : Obj} (h : S[n]? = some o) : S'[n]? = some o := by
  obtain ⟨T, rfl⟩ := a
  rw [List.getElem?_append_left (List.getElem?_eq_some_iff.mp h).1]; exact h
/-- a value is had, the store only grew -/
def Has {α : Type} (x : R α) (S : Store) (v : α) : Prop := ∃ S', x = some (v, S') ∧ Le S S'
theorem Has.bnd {α β : Type} {x : R α} {S : Store} {v : α} {f : α → Store → R β} {w : β} (h : Has x S v) (k : ∀ S', Le S S' → Has (f v S') S' w) : Has (bnd x f) S w := by
  obtain ⟨S', rfl, l⟩ := h
  obtain ⟨S2, e, l2⟩ := k S' l
  exact ⟨S2, e, l.trans l2⟩
theorem Has.now {α : Type} {v : α} {S : Store} : Has (some (v, S)) S v := ⟨S, rfl, .refl S⟩

/-! ### what is walked -/
/-- J gives the items vs, in S and every later store -/
def Its (J : Itv) (vs : List Val) (S : Store) : Prop := ∀ S', Le S S' → ∀ i, itAt J i S' = some vs[i]?
theorem Its.mono {J : Itv} {vs : List Val} {S S' : Store} (h : Its J vs S) (l : Le S S') : Its J vs S' := fun S2 l2 => h S2 (l.trans l2)
theorem its_l {n : Nat} {lk : Bool} {xs : List Val} {S : Store} (h : S[n]? = some (.lst lk xs)) : Its (.seq (.l n)) xs S := fun S' l i => by
  simp only [itAt, srcAt, l.get h]
theorem its_t {xs : List Val} {S : Store} : Its (.seq (.t xs)) xs S := fun S' l i => rfl
theorem its_rng {lo : Int} {n : Nat} {S : Store} : Its (.rng lo 1 n) ((List.range n).map fun i : Nat => .int (lo + (i : Int))) S := fun S' l i => by
  simp only [itAt, List.getElem?_map, Int.mul_one]
  by_cases h : i < n
  · rw [if_pos h, List.getElem?_range h]; rfl
  · rw [if_neg h, List.getElem?_eq_none (by simpa using h)]; rfl
def enumV (vs : List Val) : List Val := vs.zipIdx.map fun p => .tup [.int (p.2 : Nat), p.1]
theorem its_enum {s : Src} {vs : List Val} {S : Store} (h : Its (.seq s) vs S) : Its (.enum s) (enumV vs) S := fun S' l i => by
  have q : srcAt s i S' = some vs[i]? := h S' l i
  simp only [itAt, q, enumV, List.getElem?_map, List.getElem?_zipIdx]
  cases vs[i]? <;> simp
theorem its_zip2 {s t : Src} {xs ys : List Val} {S : Store} (h : Its (.seq s) xs S) (h2 : Its (.seq t) ys S) : Its (.zip [s, t]) (List.zipWith (fun x y => .tup [x, y]) xs ys) S := fun S' l i => by
  have q : srcAt s i S' = some xs[i]? := h S' l i
  have q2 : srcAt t i S' = some ys[i]? := h2 S' l i
  simp only [itAt, zipAt, q, q2, List.getElem?_zipWith]
  cases xs[i]? <;> cases ys[i]? <;> rfl
theorem its_zip3 {s t u : Src} {xs ys zs : List Val} {S : Store} (h : Its (.seq s) xs S) (h2 : Its (.seq t) ys S) (h3 : Its (.seq u) zs S) :
    Its (.zip [s, t, u]) (List.zipWith (fun (f : Val → Val) z => f z) (List.zipWith (fun x y => fun z => .tup [x, y, z]) xs ys) zs) S := fun S' l i => by
  have q : srcAt s i S' = some xs[i]? := h S' l i
  have q2 : srcAt t i S' = some ys[i]? := h2 S' l i
  have q3 : srcAt u i S' = some zs[i]? := h3 S' l i
  simp only [itAt, zipAt, q, q2, q3, List.getElem?_zipWith]
  cases xs[i]? <;> cases ys[i]? <;> cases zs[i]? <;> rfl
/-- a comprehension: every turn has its value -/
theorem lc_its {f : Val → Store → R (Option Val)} {J : Itv} {vs : List Val} {S : Store} (g : Val → Option Val) (hJ : Its J vs S) (hl : vs.length ≤ sizeLine) (hf : ∀ v ∈ vs, ∀ S', Le S S' → Has (f v S') S' (g v)) : Has (lcGo f J (vs.length + 1) 0 0 S) S (vs.filterMap g) := by
  have main : ∀ k i n S', i + k = vs.length → n ≤ i → Le S S' → Has (lcGo f J (k + 1) i n S') S' ((vs.drop i).filterMap g) := by
    intro k
    induction k with
    | zero =>
      intro i n S' hi hn l
      have e : vs[i]? = none := List.getElem?_eq_none (by omega)
      have q := hJ S' l i
      rw [e] at q
      simp only [lcGo, q]
      rw [List.drop_eq_nil_of_le (by omega)]
      exact .now
    | succ k ih =>
      intro i n S' hi hn l
      have hlt : i < vs.length := by omega
      have e : vs[i]? = some vs[i] := List.getElem?_eq_getElem hlt
      have q := hJ S' l i
      rw [e] at q
      have ed : (vs.drop i).filterMap g = ((vs[i] :: vs.drop (i + 1)).filterMap g) := by rw [List.drop_eq_getElem_cons hlt]
      rw [ed]
      unfold lcGo
      rw [q]
      dsimp only
      have hfi := hf vs[i] (List.getElem_mem hlt) S' l
      cases hg : g vs[i] with
      | none =>
        rw [hg] at hfi
        rw [List.filterMap_cons_none hg]
        exact hfi.bnd fun S2 l2 => ih (i + 1) n S2 (by omega) (by omega) (l.trans l2)
      | some y =>
        rw [hg] at hfi
        rw [List.filterMap_cons_some hg]
        refine hfi.bnd fun S2 l2 => ?_
        dsimp only
        rw [if_pos (by omega)]
        exact (ih (i + 1) (n + 1) S2 (by omega) (by omega) (l.trans l2)).bnd fun S3 l3 => .now
  have := main vs.length 0 0 S (by omega) (Nat.le_refl _) (.refl S)
  simpa using this
/-- a for loop -/
theorem loop_inv {set : Val → Env → Store → R Env} {body : Env → Store → R3} {J : Itv} {vs : List Val} {ρ : Env} {S : Store} (P : Nat → Env → Store → Prop) (h0 : P 0 ρ S) (hJ : ∀ i ρ S, P i ρ S → itAt J i S = some vs[i]?)
    (hs : ∀ i v ρ S, P i ρ S → vs[i]? = some v → ∃ ρ1 S1, set v ρ S = some (ρ1, S1) ∧ ∃ ρ2 S2, body ρ1 S1 = some (.nx, ρ2, S2) ∧ P (i + 1) ρ2 S2) : ∃ ρ' S', loopGo set body J (vs.length + 1) 0 ρ S = some (.nx, ρ', S') ∧ P vs.length ρ' S' := by
  have main : ∀ k i ρ S, i + k = vs.length → P i ρ S → ∃ ρ' S', loopGo set body J (k + 1) i ρ S = some (.nx, ρ', S') ∧ P vs.length ρ' S' := by
    intro k
    induction k with
    | zero =>
      intro i ρ S hi p
      have q := hJ i ρ S p
      rw [List.getElem?_eq_none (by omega)] at q
      have e : i = vs.length := by omega
      subst e
      exact ⟨ρ, S, by simp only [loopGo, q], p⟩
    | succ k ih =>
      intro i ρ S hi p
      have q := hJ i ρ S p
      have hlt : i < vs.length := by omega
      have e : vs[i]? = some vs[i] := List.getElem?_eq_getElem hlt
      rw [e] at q
      obtain ⟨ρ1, S1, e1, ρ2, S2, e2, p2⟩ := hs i _ ρ S p e
      obtain ⟨ρ', S', e3, p3⟩ := ih (i + 1) ρ2 S2 (by omega) p2
      refine ⟨ρ', S', ?_, p3⟩
      unfold loopGo
      rw [q]
      dsimp only
      rw [e1, bnd_some, e2]
      exact e3
  exact main vs.length 0 ρ S (by omega) h0
theorem itLen_l {n : Nat} {lk : Bool} {xs : List Val} {S : Store} (h : S[n]? = some (.lst lk xs)) : itLen (.seq (.l n)) S = xs.length := by simp only [itLen, srcLen, h]
theorem srcLen_l {n : Nat} {lk : Bool} {xs : List Val} {S : Store} (h : S[n]? = some (.lst lk xs)) : srcLen (.l n) S = xs.length := by simp only [srcLen, h]
theorem enumV_len (vs : List Val) : (enumV vs).length = vs.length := by simp [enumV]

/-! ### data -/
theorem mapO_all {α β : Type} {f : α → Option β} {g : α → β} : ∀ {xs : List α}, (∀ x ∈ xs, f x = some (g x)) → mapO f xs = some (xs.map g)
  | [], _ => rfl
  | x :: xs, h => by
    simp only [mapO, h x (List.mem_cons_self), mapO_all fun y hy => h y (List.mem_cons_of_mem _ hy), List.map_cons]
theorem toD_ints {k : Nat} {S : Store} (l : List Int) : mapO (toD (k + 1) S) (l.map .int) = some (l.map .int) := by
  rw [mapO_all (g := fun v => match v with | .int i => .int i | _ => .none)]
  · simp
  · intro x hx
    obtain ⟨i, _, rfl⟩ := List.mem_map.mp hx
    rfl
/-- a list of ints -/
theorem data_lst {S : Store} {n : Nat} {lk : Bool} {l : List Int} (h : S[n]? = some (.lst lk (l.map .int))) : dataOf S (.ref n) = some (.list (l.map .int)) := by
  unfold dataOf toD
  simp only [h, toD_ints, Option.map_some]
theorem data_tup {S : Store} {l : List Int} : dataOf S (.tup (l.map .int)) = some (.tuple (l.map .int)) := by
  unfold dataOf toD
  simp only [toD_ints, Option.map_some]
/-- a list of tuples of ints -/
theorem data_tups {S : Store} {n : Nat} {lk : Bool} {ll : List (List Int)} (h : S[n]? = some (.lst lk (ll.map fun l => .tup (l.map .int)))) : dataOf S (.ref n) = some (.list (ll.map fun l => .tuple (l.map .int))) := by
  unfold dataOf toD
  simp only [h]
  rw [mapO_all (g := fun v => match v with | .tup xs => .tuple (xs.map fun v => match v with | .int i => .int i | _ => .none) | _ => .none)]
  · simp
  · intro x hx
    obtain ⟨l, _, rfl⟩ := List.mem_map.mp hx
    unfold toD
    simp only [toD_ints, Option.map_some]
    simp
end Rf

/-! Rf16: runs of the small language, step by step. -/
namespace Rf
open PySem L2
section
variable {cf : CF} {fu : Nat} {ρ ρ1 : Env} {S S1 S2 S3 : Store} {D : FD} {args : List Val} {v x y : Val} {vs : List Val} {a b c : X} {as : Xs} {s : Sx} {bl bl2 : B} {r3 : R3} {r : R Val} {t : T} {it : I} {J : Itv}
theorem le_size {n : Nat} (h : n ≤ 1000000) : n ≤ sizeLine := Nat.le_trans h (by rw [sizeLine_eq]; decide)
theorem newT_ok {xs : List Val} (h : xs.length ≤ 1000000) : newT xs S = some (.tup xs, S) := if_pos (le_size h)
theorem newL_ok {xs : List Val} (h : xs.length ≤ 1000000) : newL xs S = some (.ref S.length, S ++ [.lst false xs]) := if_pos (le_size h)
theorem run_ret (h : exs cf fu D.body (startE D args) S = some (.ret v, ρ, S1)) : runB cf fu D args S = some (v, S1) := by unfold runB; rw [h]
theorem run_end (h : exs cf fu D.body (startE D args) S = some (.nx, ρ, S1)) : runB cf fu D args S = some (.non, S1) := by unfold runB; rw [h]
theorem exs_nx (h : ex cf fu s ρ S = some (.nx, ρ1, S1)) (k : exs cf fu bl ρ1 S1 = r3) : exs cf fu (.cons s bl) ρ S = r3 := by
  unfold exs; rw [h]; exact k
theorem exs_ret (h : ex cf fu s ρ S = some (.ret v, ρ1, S1)) : exs cf fu (.cons s bl) ρ S = some (.ret v, ρ1, S1) := by
  unfold exs; rw [h]
theorem exs_nil : exs cf fu .nil ρ S = some (.nx, ρ, S) := rfl
theorem ex_ret (h : ev cf a ρ S = some (v, S1)) : ex cf fu (.ret a) ρ S = some (.ret v, ρ, S1) := by
  show bnd (ev cf a ρ S) _ = _
  rw [h]; rfl
theorem ex_ex (h : ev cf a ρ S = some (v, S1)) : ex cf fu (.ex a) ρ S = some (.nx, ρ, S1) := by
  show bnd (ev cf a ρ S) _ = _
  rw [h]; rfl
theorem ex_asg (h : ev cf a ρ S = some (v, S1)) (k : asg cf t v ρ S1 = some (ρ1, S2)) : ex cf fu (.asg t a) ρ S = some (.nx, ρ1, S2) := by
  show bnd (ev cf a ρ S) _ = _
  rw [h, bnd_some, k]; rfl
theorem ex_if (h : ev cf a ρ S = some (.bl true, S1)) (k : exs cf fu bl ρ S1 = r3) : ex cf fu (.ife a bl bl2) ρ S = r3 := by
  show bnd (ev cf a ρ S) _ = _
  rw [h]; exact k
theorem ex_else (h : ev cf a ρ S = some (.bl false, S1)) (k : exs cf fu bl2 ρ S1 = r3) : ex cf fu (.ife a bl bl2) ρ S = r3 := by
  show bnd (ev cf a ρ S) _ = _
  rw [h]; exact k
theorem ex_loop (h : evI cf it ρ S = some (J, S1)) {n : Nat} (hl : itLen J S1 = n) (k : loopGo (asg cf t) (exs cf fu bl) J (n + 1) 0 ρ S1 = r3) : ex cf fu (.loop t it bl) ρ S = r3 := by
  show bnd (evI cf it ρ S) _ = r3
  rw [h, bnd_some, hl]; exact k
theorem ev_bin {op : Bop} (h1 : ev cf a ρ S = some (x, S1)) (h2 : ev cf b ρ S1 = some (y, S2)) (h : binV op x y S2 = r) : ev cf (.bin op a b) ρ S = r := by
  show bnd (ev cf a ρ S) _ = r
  rw [h1, bnd_some, h2]; exact h
theorem ev_cmp {op : Cop} {q : Bool} (h1 : ev cf a ρ S = some (x, S1)) (h2 : ev cf b ρ S1 = some (y, S2)) (h : cmpV op x y S2 = some q) : ev cf (.cmp op a b) ρ S = some (.bl q, S2) := by
  show bnd (ev cf a ρ S) _ = _
  rw [h1, bnd_some, h2, bnd_some, h]
theorem ev_call {f : Nat} (h1 : evs cf as ρ S = some (vs, S1)) (h : cf f vs S1 = r) : ev cf (.call f as) ρ S = r := by
  show bnd (evs cf as ρ S) _ = r
  rw [h1]; exact h
theorem ev_bi {f : Bi} (h1 : evs cf as ρ S = some (vs, S1)) (h : biV f vs S1 = r) : ev cf (.bi f as) ρ S = r := by
  show bnd (evs cf as ρ S) _ = r
  rw [h1]; exact h
theorem ev_tup (h1 : evs cf as ρ S = some (vs, S1)) (h : vs.length ≤ 1000000) : ev cf (.tup as) ρ S = some (.tup vs, S1) := by
  show bnd (evs cf as ρ S) _ = _
  rw [h1]; exact newT_ok h
theorem ev_lst (h1 : evs cf as ρ S = some (vs, S1)) (h : vs.length ≤ 1000000) : ev cf (.lst as) ρ S = some (.ref S1.length, S1 ++ [.lst false vs]) := by
  show bnd (evs cf as ρ S) _ = _
  rw [h1]; exact newL_ok h
theorem ev_idx (h1 : ev cf a ρ S = some (x, S1)) (h2 : ev cf b ρ S1 = some (y, S2)) (h : ixV x y S2 = some v) : ev cf (.idx a b) ρ S = some (v, S2) := by
  show bnd (ev cf a ρ S) _ = _
  rw [h1, bnd_some, h2, bnd_some, h]
theorem ev_not {q : Bool} (h1 : ev cf a ρ S = some (.bl q, S1)) : ev cf (.not a) ρ S = some (.bl (!q), S1) := by
  show bnd (ev cf a ρ S) _ = _
  rw [h1]; rfl
theorem ev_or0 (h1 : ev cf a ρ S = some (.bl false, S1)) (h2 : ev cf b ρ S1 = r) : ev cf (.or a b) ρ S = r := by
  show bnd (ev cf a ρ S) _ = r
  rw [h1]; exact h2
theorem ev_or1 (h1 : ev cf a ρ S = some (.bl true, S1)) : ev cf (.or a b) ρ S = some (.bl true, S1) := by
  show bnd (ev cf a ρ S) _ = _
  rw [h1]; rfl
theorem ev_and1 (h1 : ev cf a ρ S = some (.bl true, S1)) (h2 : ev cf b ρ S1 = r) : ev cf (.and a b) ρ S = r := by
  show bnd (ev cf a ρ S) _ = r
  rw [h1]; exact h2
theorem ev_and0 (h1 : ev cf a ρ S = some (.bl false, S1)) : ev cf (.and a b) ρ S = some (.bl false, S1) := by
  show bnd (ev cf a ρ S) _ = _
  rw [h1]; rfl
theorem ev_mt {m : Mt} (h1 : ev cf a ρ S = some (x, S1)) (hr : rcvOk m x S1 = true) (h2 : evs cf as ρ S1 = some (vs, S2)) (h : mtV m x vs S2 = r) : ev cf (.mt m a as) ρ S = r := by
  show bnd (ev cf a ρ S) _ = r
  rw [h1, bnd_some, hr, if_pos rfl, h2]; exact h
theorem evs_nil : evs cf .nil ρ S = some ([], S) := rfl
theorem evs_cons (h1 : ev cf a ρ S = some (x, S1)) (h2 : evs cf as ρ S1 = some (vs, S2)) : evs cf (.cons a as) ρ S = some (x :: vs, S2) := by
  show bnd (ev cf a ρ S) _ = _
  rw [h1, bnd_some, h2]; rfl
theorem ev_lc {elt cnd : X} {own : List Nat} {ys : List Val} (h : evI cf it ρ S = some (J, S1)) {n : Nat} (hl : itLen J S1 = n) (k : lcGo (dTurn own (asg cf t) (ev cf cnd) (ev cf elt) ρ) J (n + 1) 0 0 S1 = some (ys, S2)) : ev cf (.lc elt t it cnd own) ρ S = some (.ref S2.length, S2 ++ [.lst false ys]) := by
  show bnd (evI cf it ρ S) _ = _
  rw [h, bnd_some, hl]
  show bnd (lcGo (dTurn own (asg cf t) (ev cf cnd) (ev cf elt) ρ) J (n + 1) 0 0 S1) _ = _
  rw [k]; rfl
/-- a turn without a test -/
theorem turn_yes {own : List Nat} {dg : Val → Env → Store → R Env} {de : Env → Store → R Val} (h1 : dg v (wipeE ρ own) S = some (ρ1, S1)) (h2 : de ρ1 S1 = some (y, S2)) : dTurn own dg (ev cf (.k (.bl true))) de ρ v S = some (some y, S2) := by
  unfold dTurn
  rw [h1, bnd_some]
  show bnd (de ρ1 S1) _ = _
  rw [h2]; rfl
theorem turn_t {own : List Nat} {dg : Val → Env → Store → R Env} {dc de : Env → Store → R Val} (h1 : dg v (wipeE ρ own) S = some (ρ1, S1)) (h2 : dc ρ1 S1 = some (.bl true, S2)) (h3 : de ρ1 S2 = some (y, S3)) : dTurn own dg dc de ρ v S = some (some y, S3) := by
  unfold dTurn
  rw [h1, bnd_some, h2, bnd_some]
  show bnd (de ρ1 S2) _ = _
  rw [h3]; rfl
theorem turn_f {own : List Nat} {dg : Val → Env → Store → R Env} {dc de : Env → Store → R Val} (h1 : dg v (wipeE ρ own) S = some (ρ1, S1)) (h2 : dc ρ1 S1 = some (.bl false, S2)) : dTurn own dg dc de ρ v S = some (none, S2) := by
  unfold dTurn
  rw [h1, bnd_some, h2]; rfl
theorem evI_rng1 {j : Int} (h : evs cf as ρ S = some ([.int j], S1)) (hr : rngOk j = true) : evI cf (.rng as) ρ S = some (.rng 0 1 j.toNat, S1) := by
  show bnd (evs cf as ρ S) _ = _
  rw [h, bnd_some]
  show (match (if rngOk j = true then some (Itv.rng 0 1 j.toNat) else none) with | some J => some (J, S1) | none => none) = _
  rw [if_pos hr]
theorem evI_ex {sr : Src} (h : ev cf a ρ S = some (v, S1)) (hs : srcOf v S1 = some sr) : evI cf (.ex a) ρ S = some (.seq sr, S1) := by
  show bnd (ev cf a ρ S) _ = _
  rw [h, bnd_some, hs]
theorem evI_enum {sr : Src} (h : ev cf a ρ S = some (v, S1)) (hs : srcOf v S1 = some sr) : evI cf (.enum a) ρ S = some (.enum sr, S1) := by
  show bnd (ev cf a ρ S) _ = _
  rw [h, bnd_some, hs]
theorem evI_zip {ss : List Src} (h : evs cf as ρ S = some (vs, S1)) (hs : mapO (fun v => srcOf v S1) vs = some ss) : evI cf (.zip as) ρ S = some (.zip ss, S1) := by
  show bnd (evs cf as ρ S) _ = _
  rw [h, bnd_some, hs]
theorem src_l {n : Nat} {lk : Bool} {xs : List Val} (h : S[n]? = some (.lst lk xs)) : srcOf (.ref n) S = some (.l n) := by simp only [srcOf, h]
/-- a while loop: Inv by the turns that are left -/
theorem while_inv {test : Env → Store → R Val} {body : Env → Store → R3} (P : Nat → Env → Store → Prop) {n : Nat} {ρ : Env} {S : Store} (h0 : P n ρ S) (hn : n < fu)
    (hs : ∀ n ρ S, P (n + 1) ρ S → ∃ S1, test ρ S = some (.bl true, S1) ∧ ∃ ρ2 S2, body ρ S1 = some (.nx, ρ2, S2) ∧ P n ρ2 S2) (hd : ∀ ρ S, P 0 ρ S → ∃ S1, test ρ S = some (.bl false, S1) ∧ P 0 ρ S1) : ∃ ρ' S', whileGo test body fu ρ S = some (.nx, ρ', S') ∧ P 0 ρ' S' := by
  induction n generalizing fu ρ S with
  | zero =>
    obtain ⟨S1, e, p⟩ := hd ρ S h0
    match fu, hn with
    | fu + 1, _ =>
      refine ⟨ρ, S1, ?_, p⟩
      unfold whileGo
      rw [e]; rfl
  | succ n ih =>
    obtain ⟨S1, e, ρ2, S2, e2, p⟩ := hs n ρ S h0
    match fu, hn with
    | fu + 1, hn =>
      obtain ⟨ρ', S', e3, p3⟩ := ih (fu := fu) p (by omega)
      refine ⟨ρ', S', ?_, p3⟩
      unfold whileGo
      rw [e, bnd_some]
      dsimp only
      rw [e2]
      exact e3
end
end Rf

/-! Rf17: comparisons, repr, places, of ints, tuples of ints, lists of them. -/
namespace Rf
open PySem L2
theorem ints_lay : ∀ l : List Int, PyData.canLayAll0 (l.map .int) = true
  | [] => rfl
  | x :: l => by simp only [List.map_cons, PyData.canLayAll0, PyData.canLay0, ints_lay l, Bool.and_self]
theorem ints_depth : ∀ l : List Int, PyData.depthAll (l.map .int) = 0
  | [] => rfl
  | x :: l => by simp only [List.map_cons, PyData.depthAll, PyData.depth, ints_depth l, Nat.max_self]
theorem tups_lay : ∀ l : List (List Int), PyData.canLayAll0 (l.map fun w => .tuple (w.map .int)) = true
  | [] => rfl
  | x :: l => by simp only [List.map_cons, PyData.canLayAll0, PyData.canLay0, ints_lay, tups_lay l, Bool.and_self]
theorem tups_depth : ∀ l : List (List Int), PyData.depthAll (l.map fun w => .tuple (w.map .int)) ≤ 1
  | [] => by simp [PyData.depthAll]
  | x :: l => by
    have := tups_depth l
    simp only [List.map_cons, PyData.depthAll, PyData.depth, ints_depth]
    omega
theorem sh_int (i : Int) : SeqAt.shaped (.int i) = true := rfl
theorem sh_bool (i : Bool) : SeqAt.shaped (.bool i) = true := rfl
theorem sh_tup (l : List Int) : SeqAt.shaped (.tuple (l.map .int)) = true := by
  show (PyData.canLay0 (.tuple (l.map .int)) && decide (PyData.depth (.tuple (l.map .int)) ≤ 64)) = true
  simp only [PyData.canLay0, PyData.depth, ints_lay, ints_depth]
  decide
theorem sh_lst (l : List Int) : SeqAt.shaped (.list (l.map .int)) = true := by
  show (PyData.canLay0 (.list (l.map .int)) && decide (PyData.depth (.list (l.map .int)) ≤ 64)) = true
  simp only [PyData.canLay0, PyData.depth, ints_lay, ints_depth]
  decide
theorem sh_tups (l : List (List Int)) : SeqAt.shaped (.list (l.map fun w => .tuple (w.map .int))) = true := by
  show (PyData.canLay0 (.list (l.map fun w => .tuple (w.map .int))) && decide (PyData.depth (.list (l.map fun w => .tuple (w.map .int))) ≤ 64)) = true
  have h := tups_depth l
  simp only [PyData.canLay0, PyData.depth, tups_lay, Bool.true_and]
  exact decide_eq_true (by omega)
theorem eqv_ints : ∀ l l' : List Int, PyData.eqvAll (l.map .int) (l'.map .int) = decide (l = l')
  | [], [] => rfl
  | [], y :: l' => by simp [PyData.eqvAll]
  | x :: l, [] => by simp [PyData.eqvAll]
  | x :: l, y :: l' => by
    simp only [List.map_cons, PyData.eqvAll, PyData.eqv, eqv_ints l l', List.cons.injEq]
    by_cases h : x = y <;> by_cases h2 : l = l' <;> simp [h, h2]
variable {S : Store}
theorem eqV_int {a b : Int} : eqV (.int a) (.int b) S = some (decide (a = b)) := by
  show (if SeqAt.shaped (.int a) && SeqAt.shaped (.int b) then some (PyData.eqv (.int a) (.int b)) else none) = _
  rw [sh_int, sh_int]
  show some (a == b) = _
  by_cases h : a = b <;> simp [h]
theorem eqV_data {x y : Val} {d e : PyData} (h1 : dataOf S x = some d) (h2 : dataOf S y = some e) (s1 : SeqAt.shaped d = true) (s2 : SeqAt.shaped e = true) : eqV x y S = some (PyData.eqv d e) := by
  unfold eqV
  rw [h1, h2]
  dsimp only
  rw [s1, s2]
  rfl
theorem eqV_tup {l l' : List Int} : eqV (.tup (l.map .int)) (.tup (l'.map .int)) S = some (decide (l = l')) := by
  rw [eqV_data data_tup data_tup (sh_tup l) (sh_tup l')]
  simp only [PyData.eqv, eqv_ints]
theorem eqV_lst {m n : Nat} {k k' : Bool} {l l' : List Int} (h : S[m]? = some (.lst k (l.map .int))) (h' : S[n]? = some (.lst k' (l'.map .int))) : eqV (.ref m) (.ref n) S = some (decide (l = l')) := by
  rw [eqV_data (data_lst h) (data_lst h') (sh_lst l) (sh_lst l')]
  simp only [PyData.eqv, eqv_ints]
theorem inV_tups {n : Nat} {k : Bool} {w : List Int} {ll : List (List Int)} (h : S[n]? = some (.lst k (ll.map fun l => .tup (l.map .int)))) : inV (.tup (w.map .int)) (.ref n) S = some (decide (w ∈ ll)) := by
  unfold inV
  dsimp only
  rw [h]
  dsimp only
  rw [data_tup, data_tups h]
  dsimp only
  rw [sh_tup, sh_tups]
  show some _ = some _
  congr 1
  induction ll with
  | nil => simp
  | cons l ll ih =>
    simp only [List.map_cons, List.any_cons, PyData.eqv, eqv_ints, List.mem_cons]
    have ih' : (List.any (ll.map fun l => PyData.tuple (l.map .int)) fun z => z.eqv (.tuple (w.map .int))) = decide (w ∈ ll) := by
      have : ∀ zs : List (List Int), (List.any (zs.map fun l => PyData.tuple (l.map .int)) fun z => z.eqv (.tuple (w.map .int))) = decide (w ∈ zs) := by
        intro zs
        induction zs with
        | nil => simp
        | cons z zs ih =>
          simp only [List.map_cons, List.any_cons, PyData.eqv, eqv_ints, ih, List.mem_cons]
          by_cases h1 : z = w
          · simp [h1]
          · have : ¬ w = z := fun q => h1 q.symm
            simp [h1, this]
      exact this ll
    rw [ih']
    by_cases h1 : l = w
    · simp [h1]
    · have : ¬ w = l := fun q => h1 q.symm
      simp [h1, this]
/-- repr -/
theorem reprV_data {v : Val} {d : PyData} (h : dataOf S v = some d) (hr : reprOk d = true) : reprV v S = some (.str d.shown, S) := by
  unfold reprV
  rw [h]
  dsimp only
  rw [hr]
  rfl
theorem cmp_str {x : Str} (h : SeqAt.shaped (.str x) = true) : cmpV .ne (.str x) (.str x) S = some false ∧ cmpV .eq (.str x) (.str x) S = some true := by
  have e : eqV (.str x) (.str x) S = some true := by
    rw [eqV_data (d := .str x) (e := .str x) rfl rfl h h]
    simp [PyData.eqv]
  exact ⟨by simp only [cmpV, e]; rfl, by simp only [cmpV, e]⟩
/-! places -/
theorem at_nat {α : Type} {xs : List α} {i : Nat} {x : α} (h : xs[i]? = some x) : atI xs (i : Int) = some x := by
  have hl := (List.getElem?_eq_some_iff.mp h).1
  unfold atI ixN
  rw [if_pos (by omega), if_pos (by omega)]
  exact h
theorem at_neg {α : Type} {xs : List α} {i : Nat} {x : α} (h : xs[xs.length - (i + 1)]? = some x) (hi : i < xs.length) : atI xs (-((i + 1 : Nat) : Int)) = some x := by
  unfold atI ixN
  rw [if_neg (by omega), if_pos (by omega)]
  show xs[(-((i + 1 : Nat) : Int) + (xs.length : Int)).toNat]? = some x
  rw [show (-((i + 1 : Nat) : Int) + (xs.length : Int)).toNat = xs.length - (i + 1) by omega]
  exact h
theorem set_last {o o' : Obj} : (S ++ [o]).set S.length o' = S ++ [o'] := by
  rw [List.set_append_right _ _ (Nat.le_refl _)]; simp
theorem get_last {o : Obj} : (S ++ [o])[S.length]? = some o := List.getElem?_concat_length
theorem ix_lst {n : Nat} {k : Bool} {xs : List Val} {i : Int} {v : Val} (h : S[n]? = some (.lst k xs)) (hi : atI xs i = some v) : ixV (.ref n) (.int i) S = some v := by
  simp only [ixV, h, hi]
theorem len_lst {n : Nat} {k : Bool} {xs : List Val} (h : S[n]? = some (.lst k xs)) : biV .len [.ref n] S = some (.int xs.length, S) := by
  simp only [biV, h]
theorem app_lst {n : Nat} {xs : List Val} {v : Val} (h : S[n]? = some (.lst false xs)) (hl : xs.length < 1000000) : mtV .append (.ref n) [v] S = some (.non, S.set n (.lst false (xs ++ [v]))) := by
  simp only [mtV, h]
  exact if_pos (Nat.lt_of_lt_of_le hl (Nat.le_trans (Nat.le_refl _) (le_size (Nat.le_refl _))))
theorem rcv_lst {n : Nat} {k : Bool} {xs : List Val} {m : Mt} (h : S[n]? = some (.lst k xs)) (hm : m ≠ .get ∧ m ≠ .tcount ∧ m ≠ .update := by decide) : rcvOk m (.ref n) S = true := by
  cases m <;> first | exact absurd rfl hm.1 | exact absurd rfl hm.2.1 | exact absurd rfl hm.2.2 | simp only [rcvOk, h]
theorem ints_sum : ∀ l : List Int, intsV (l.map .int) = some l
  | [] => rfl
  | x :: l => by simp only [List.map_cons, intsV, ints_sum l]
theorem sum_lst {n : Nat} {k : Bool} {l : List Int} (h : S[n]? = some (.lst k (l.map .int))) : biV .sum [.ref n] S = some (.int l.sum, S) := by
  simp only [biV, h, ints_sum, Option.map_some]
theorem sum_tup {l : List Int} : biV .sum [.tup (l.map .int)] S = some (.int l.sum, S) := by
  simp only [biV, ints_sum, Option.map_some]
end Rf

/-! Rf18: more loops. -/
namespace Rf
open PySem L2
/-- a comprehension over the values t a of a list -/
theorem lc_map {α : Type} {f : Val → Store → R (Option Val)} {J : Itv} {ws : List α} {t : α → Val} {S : Store} (g : α → Option Val) (hJ : Its J (ws.map t) S) (hl : ws.length ≤ 1000000) (hf : ∀ a ∈ ws, ∀ S', Le S S' → Has (f (t a) S') S' (g a)) : Has (lcGo f J (ws.length + 1) 0 0 S) S (ws.filterMap g) := by
  have hl := le_size hl
  have main : ∀ k i n S', i + k = ws.length → n ≤ i → Le S S' → Has (lcGo f J (k + 1) i n S') S' ((ws.drop i).filterMap g) := by
    intro k
    induction k with
    | zero =>
      intro i n S' hi hn l
      have e : (ws.map t)[i]? = none := List.getElem?_eq_none (by simp; omega)
      have q := hJ S' l i
      rw [e] at q
      simp only [lcGo, q]
      rw [List.drop_eq_nil_of_le (by omega)]
      exact .now
    | succ k ih =>
      intro i n S' hi hn l
      have hlt : i < ws.length := by omega
      have e : (ws.map t)[i]? = some (t ws[i]) := by rw [List.getElem?_map, List.getElem?_eq_getElem hlt]; rfl
      have q := hJ S' l i
      rw [e] at q
      have ed : (ws.drop i).filterMap g = ((ws[i] :: ws.drop (i + 1)).filterMap g) := by rw [List.drop_eq_getElem_cons hlt]
      rw [ed]
      unfold lcGo
      rw [q]
      dsimp only
      have hfi := hf ws[i] (List.getElem_mem hlt) S' l
      cases hg : g ws[i] with
      | none =>
        rw [hg] at hfi
        rw [List.filterMap_cons_none hg]
        exact hfi.bnd fun S2 l2 => ih (i + 1) n S2 (by omega) (by omega) (l.trans l2)
      | some y =>
        rw [hg] at hfi
        rw [List.filterMap_cons_some hg]
        refine hfi.bnd fun S2 l2 => ?_
        dsimp only
        rw [if_pos (by omega)]
        exact (ih (i + 1) (n + 1) S2 (by omega) (by omega) (l.trans l2)).bnd fun S3 l3 => .now
  have := main ws.length 0 0 S (by omega) (Nat.le_refl _) (.refl S)
  simpa using this
theorem filterMap_if {α β : Type} (p : α → Bool) (f : α → β) : ∀ l : List α, l.filterMap (fun a => if p a = true then some (f a) else none) = (l.filter p).map f
  | [] => rfl
  | a :: l => by
    by_cases h : p a = true
    · rw [List.filterMap_cons_some (by rw [if_pos h]), List.filter_cons_of_pos h, List.map_cons, filterMap_if p f l]
    · rw [List.filterMap_cons_none (by rw [if_neg h]), List.filter_cons_of_neg h, filterMap_if p f l]
theorem filterMap_some {α β : Type} (f : α → β) : ∀ l : List α, l.filterMap (fun a => some (f a)) = l.map f
  | [] => rfl
  | a :: l => by
    rw [List.filterMap_cons_some (f := fun a => some (f a)) (b := f a) rfl, List.map_cons, filterMap_some f l]
/-- a while loop that ends when its test says so; n bounds the turns -/
theorem while_meas {test : Env → Store → R Val} {body : Env → Store → R3} (P : Nat → Env → Store → Prop) (Q : Env → Store → Prop) {fu n : Nat} {ρ : Env} {S : Store} (h0 : P n ρ S) (hn : n < fu)
    (hs : ∀ n ρ S, P n ρ S → (∃ S1, test ρ S = some (.bl false, S1) ∧ Q ρ S1) ∨ ∃ S1, test ρ S = some (.bl true, S1) ∧ ∃ ρ2 S2, body ρ S1 = some (.nx, ρ2, S2) ∧ ∃ n', n' < n ∧ P n' ρ2 S2) : ∃ ρ' S', whileGo test body fu ρ S = some (.nx, ρ', S') ∧ Q ρ' S' := by
  induction fu generalizing n ρ S with
  | zero => omega
  | succ fu ih =>
    rcases hs n ρ S h0 with ⟨S1, e, q⟩ | ⟨S1, e, ρ2, S2, e2, n', hn', p⟩
    · refine ⟨ρ, S1, ?_, q⟩
      unfold whileGo
      rw [e]; rfl
    · obtain ⟨ρ', S', e3, q⟩ := ih p (by omega)
      refine ⟨ρ', S', ?_, q⟩
      unfold whileGo
      rw [e, bnd_some]
      dsimp only
      rw [e2]
      exact e3
end Rf

/-! Cm: what the laws' common defs compute, whatever the table of defs. -/
namespace Cm
open Rf
def DFib : FD := ⟨1, 4, 
  (.cons (.asg (.tup (.cons (.slot 2) (.cons (.slot 3) .nil))) (.tup (.cons (.k (.int 0)) (.cons (.k (.int 1)) .nil))))
  (.cons (.loop (.slot 1) (.rng (.cons (.slot 0) .nil)) ((.cons (.asg (.tup (.cons (.slot 2) (.cons (.slot 3) .nil))) (.tup (.cons (.slot 3) (.cons (.bin .add (.slot 2) (.slot 3)) .nil))))
    .nil)))
  (.cons (.ret (.slot 2))
  .nil)))⟩
def DOpen : FD := ⟨1, 4, 
  (.cons (.asg (.slot 1) (.k (.int 11)))
  (.cons (.loop (.slot 2) (.ex (.slot 0)) ((.cons (.asg (.slot 1) (.bin .mod (.bi .int (.cons (.bin .add (.bin .add (.bin .mul (.slot 1) (.k (.int 69069))) (.bin .mul (.slot 2) (.k (.int 31)))) (.k (.int 5))) .nil)) (.k (.int 2147483629))))
    .nil)))
  (.cons (.asg (.slot 3) (.lc (.bi .abs (.cons (.slot 2) .nil)) (.slot 2) (.ex (.slot 0)) (.k (.bl true)) [2]))
  (.cons (.ret (.dict [(.str "cells"), (.str "left"), (.str "mixed"), (.str "turn")] (.cons (.rev (.slot 3)) (.cons (.k (.int 1)) (.cons (.slot 1) (.cons (.k (.int 0)) .nil))))))
  .nil))))⟩
def DPick : FD := ⟨2, 6, 
  (.cons (.ife (.cmp .lt (.slot 1) (.k (.int 2))) ((.cons (.ret (.k (.int 0)))
    .nil)) (.nil))
  (.cons (.asg (.slot 2) (.idx (.slot 0) (.k (.str "cells"))))
  (.cons (.whl (.and (.cmp .lt (.idx (.slot 0) (.k (.str "left"))) (.k (.int 2))) (.cmp .gt (.bi .len (.cons (.slot 2) .nil)) (.k (.int 0)))) ((.cons (.asg (.sub (.slot 0) (.k (.str "left"))) (.mt .pop (.slot 2) .nil))
    .nil)))
  (.cons (.asg (.slot 3) (.idx (.slot 0) (.k (.str "left"))))
  (.cons (.ife (.cmp .gt (.slot 3) (.k (.int 1))) ((.cons (.asg (.sub (.slot 0) (.k (.str "left"))) (.bin .fdiv (.slot 3) (.slot 1)))
    (.cons (.ret (.bin .mod (.bi .int (.cons (.slot 3) .nil)) (.slot 1)))
    .nil))) (.nil))
  (.cons (.asg (.sub (.slot 0) (.k (.str "turn"))) (.bin .add (.idx (.slot 0) (.k (.str "turn"))) (.k (.int 1))))
  (.cons (.asg (.slot 4) (.idx (.slot 0) (.k (.str "turn"))))
  (.cons (.asg (.slot 5) (.bin .mod (.bi .int (.cons (.bin .add (.idx (.slot 0) (.k (.str "mixed"))) (.bin .mul (.slot 4) (.k (.int 104729)))) .nil)) (.k (.int 998244353))))
  (.cons (.asg (.slot 5) (.bin .mod (.bi .int (.cons (.bin .add (.bin .mul (.slot 5) (.slot 5)) (.bin .mul (.slot 4) (.k (.int 17)))) .nil)) (.k (.int 2147483647))))
  (.cons (.ret (.bin .mod (.bi .int (.cons (.bin .fdiv (.slot 5) (.k (.int 16))) .nil)) (.slot 1)))
  .nil))))))))))⟩
def DLf : FD := ⟨1, 2, 
  (.cons (.asg (.slot 1) (.lst (.cons (.k (.int 0)) (.cons (.k (.int 1)) .nil))))
  (.cons (.whl (.cmp .le (.bi .len (.cons (.slot 1) .nil)) (.slot 0)) ((.cons (.ex (.mt .append (.slot 1) (.cons (.bin .add (.idx (.slot 1) (.neg (.k (.int 1)))) (.idx (.slot 1) (.neg (.k (.int 2))))) .nil)))
    .nil)))
  (.cons (.ret (.idx (.slot 1) (.slot 0)))
  .nil)))⟩
def DWords : FD := ⟨1, 5, 
  (.cons (.asg (.slot 1) (.lst (.cons (.tup .nil) .nil)))
  (.cons (.loop (.slot 2) (.rng (.cons (.slot 0) .nil)) ((.cons (.asg (.slot 3) (.lst .nil))
    (.cons (.loop (.slot 4) (.ex (.slot 1)) ((.cons (.ex (.mt .append (.slot 3) (.cons (.bin .add (.slot 4) (.tup (.cons (.k (.int 0)) .nil))) .nil)))
      (.cons (.ife (.or (.cmp .eq (.slot 4) (.tup .nil)) (.cmp .eq (.idx (.slot 4) (.neg (.k (.int 1)))) (.k (.int 0)))) ((.cons (.ex (.mt .append (.slot 3) (.cons (.bin .add (.slot 4) (.tup (.cons (.k (.int 1)) .nil))) .nil)))
        .nil)) (.nil))
      .nil))))
    (.cons (.asg (.slot 1) (.bi .list (.cons (.slot 3) .nil)))
    .nil)))))
  (.cons (.ret (.slot 1))
  .nil)))⟩
def DUnlike : FD := ⟨2, 4, 
  (.cons (.ret (.bi .sum (.cons (.lc (.bi .abs (.cons (.bin .sub (.slot 2) (.slot 3)) .nil)) (.tup (.cons (.slot 2) (.cons (.slot 3) .nil))) (.zip (.cons (.slot 0) (.cons (.slot 1) .nil))) (.k (.bl true)) [2, 3]) .nil)))
  .nil)⟩
abbrev C (tbl : List FD) (d : Nat) : CF := callF tbl 200 d
variable {tbl : List FD}
/-- Fibonacci's numbers -/
def F : Nat → Int
  | 0 => 0
  | 1 => 1
  | n + 2 => F n + F (n + 1)
theorem rng_small {k : Nat} (h : k < 1000000) : rngOk (k : Int) = true := by simp [rngOk]; omega
theorem c_fib {f : Nat} (hTab : tbl[f]? = some DFib) {d : Nat} {S : Store} {k : Nat} (hk : k < 1000000) : C tbl (d + 1) f [.int k] S = some (.int (F k), S) := by
  refine (callF_at hTab rfl).trans ?_
  obtain ⟨ρ', S', e, ⟨rfl, z, rfl⟩⟩ := loop_inv (set := asg (C tbl d) (.slot 1)) (body := exs (C tbl d) 200 (.cons (.asg (.tup (.cons (.slot 2) (.cons (.slot 3) .nil))) (.tup (.cons (.slot 3) (.cons (.bin .add (.slot 2) (.slot 3)) .nil)))) .nil))
    (J := .rng 0 1 k) (vs := (List.range k).map fun i : Nat => .int (0 + (i : Int))) (ρ := [some (.int k), none, some (.int 0), some (.int 1)]) (S := S)
    (fun i ρ S' => S' = S ∧ ∃ z, ρ = [some (.int k), z, some (.int (F i)), some (.int (F (i + 1)))]) ⟨rfl, _, rfl⟩ (fun i ρ S' _ => its_rng S' (.refl _) i) (by
      rintro i v ρ S' ⟨rfl, z, rfl⟩ hv
      exact ⟨_, _, rfl, _, _, rfl, rfl, _, rfl⟩)
  simp only [List.length_map, List.length_range] at e
  exact run_ret (exs_nx rfl (exs_nx (ex_loop (evI_rng1 (evs_cons rfl rfl) (rng_small hk)) rfl e) (exs_ret (ex_ret rfl))))
theorem mul_l {i j : Int} {S : Store} (h : small64 i = true) : binV .mul (.int i) (.int j) S = some (.int (i * j), S) := by
  show (if mulOk i j = true then some (Val.int (i * j), S) else none) = _
  rw [if_pos (by simp [mulOk, h])]
theorem mul_r {i j : Int} {S : Store} (h : small64 j = true) : binV .mul (.int i) (.int j) S = some (.int (i * j), S) := by
  show (if mulOk i j = true then some (Val.int (i * j), S) else none) = _
  rw [if_pos (by simp [mulOk, h])]
theorem small_nat {n : Nat} (h : n < 1000000) : small64 (n : Int) = true := by simp [small64]; omega
theorem sub1 {n : Nat} {S : Store} : binV .sub (.int ((n + 1 : Nat) : Int)) (.int 1) S = some (.int (n : Int), S) := by
  show some (Val.int (((n + 1 : Nat) : Int) - 1), S) = _
  rw [show (((n + 1 : Nat) : Int) - 1) = (n : Int) by omega]
theorem add1 {n : Nat} {S : Store} : binV .add (.int (n : Int)) (.int 1) S = some (.int ((n + 1 : Nat) : Int), S) := rfl
def fibs (j : Nat) : List Val := (List.range j).map fun i => .int (F i)
theorem fibs_succ (j : Nat) : fibs (j + 1) = fibs j ++ [.int (F j)] := by simp [fibs, List.range_succ]
theorem fibs_get {j i : Nat} (h : i < j) : (fibs j)[i]? = some (.int (F i)) := by simp [fibs, h]
theorem fibs_len (j : Nat) : (fibs j).length = j := by simp [fibs]
/-- the law's own numbers -/
theorem c_lf {f : Nat} (hTab : tbl[f]? = some DLf) {d k : Nat} {S : Store} (hk : k < 199) : ∃ S', C tbl (d + 1) f [.int (k : Int)] S = some (.int (F k), S') ∧ Le S S' := by
  obtain ⟨ρ', S', e, j, hj, rfl, rfl, hjk⟩ := while_inv (fu := 200) (test := ev (C tbl d) (.cmp .le (.bi .len (.cons (.slot 1) .nil)) (.slot 0)))
    (body := exs (C tbl d) 200 (.cons (.ex (.mt .append (.slot 1) (.cons (.bin .add (.idx (.slot 1) (.neg (.k (.int 1)))) (.idx (.slot 1) (.neg (.k (.int 2))))) .nil))) .nil))
    (fun n ρ S' => ∃ j, 2 ≤ j ∧ S' = S ++ [.lst false (fibs j)] ∧ ρ = [some (.int (k : Int)), some (.ref S.length)] ∧ ((n = 0 ∧ k < j) ∨ j + n = k + 1)) (n := k - 1) (ρ := [some (.int (k : Int)), some (.ref S.length)]) (S := S ++ [.lst false (fibs 2)])
    ⟨2, Nat.le_refl _, rfl, rfl, by omega⟩ (by omega) (by
      rintro n ρ S' ⟨j, hj, rfl, rfl, hjk⟩
      have hjk' : j + (n + 1) = k + 1 := by omega
      refine ⟨_, ev_cmp (ev_bi (evs_cons rfl evs_nil) (len_lst get_last)) rfl ?_, ?_⟩
      · show some (decide (((fibs j).length : Int) ≤ (k : Int))) = _
        rw [fibs_len, decide_eq_true (by omega)]
      have g1 : L2.atI (fibs j) (-1) = some (.int (F (j - 1))) := at_neg (i := 0) (by rw [fibs_len]; exact fibs_get (by omega)) (by rw [fibs_len]; omega)
      have g2 : L2.atI (fibs j) (-2) = some (.int (F (j - 2))) := at_neg (i := 1) (by rw [fibs_len]; exact fibs_get (by omega)) (by rw [fibs_len]; omega)
      refine ⟨_, _, exs_nx (ex_ex (ev_mt rfl (rcv_lst get_last) (evs_cons (ev_bin (ev_idx rfl rfl (ix_lst get_last g1)) (ev_idx rfl rfl (ix_lst get_last g2)) rfl) evs_nil) (app_lst get_last (by rw [fibs_len]; omega)))) exs_nil, ?_⟩
      refine ⟨j + 1, by omega, ?_, rfl, by omega⟩
      rw [set_last, fibs_succ]
      obtain ⟨i, rfl⟩ : ∃ i, j = i + 2 := ⟨j - 2, by omega⟩
      show _ ++ [Obj.lst false (fibs (i + 2) ++ [Val.int (F (i + 1) + F i)])] = _
      rw [show F (i + 1) + F i = F (i + 2) from Int.add_comm _ _]) (by
      rintro ρ S' ⟨j, hj, rfl, rfl, hjk⟩
      refine ⟨_, ev_cmp (ev_bi (evs_cons rfl evs_nil) (len_lst get_last)) rfl ?_, j, hj, rfl, rfl, hjk⟩
      show some (decide (((fibs j).length : Int) ≤ (k : Int))) = _
      rw [fibs_len, decide_eq_false (by omega)])
  refine ⟨_, (callF_at hTab rfl).trans (run_ret (exs_nx (ex_asg (ev_lst (evs_cons rfl (evs_cons rfl evs_nil)) (by decide)) rfl) (exs_nx e (exs_ret (ex_ret (ev_idx rfl rfl (ix_lst get_last (at_nat (fibs_get (by omega)))))))))), .add _ _⟩

/-! ### words -/
def tv (w : List Int) : Val := .tup (w.map .int)
/-- a word without two ones in a row, made longer -/
def ext1 (w : List Int) : List (List Int) := (w ++ [0]) :: (if w = [] ∨ w.getLast? = some 0 then [w ++ [1]] else [])
def stepW (found : List (List Int)) : List (List Int) := found.flatMap ext1
def wordsP : Nat → List (List Int)
  | 0 => [[]]
  | n + 1 => stepW (wordsP n)
def lv (ws : List (List Int)) : List Val := ws.map tv
theorem lv_len (ws : List (List Int)) : (lv ws).length = ws.length := by simp [lv]
theorem lv_app (a b : List (List Int)) : lv (a ++ b) = lv a ++ lv b := by simp [lv]
theorem tup_add {w : List Int} {x : Int} {S : Store} (h : w.length < 1000) : binV .add (tv w) (.tup [.int x]) S = some (tv (w ++ [x]), S) := by
  show newT (w.map .int ++ [.int x]) S = _
  rw [newT_ok (by simp; omega)]
  simp [tv]
theorem words_len : ∀ n, ∀ w ∈ wordsP n, w.length = n
  | 0, w, h => by simp [wordsP] at h; simp [h]
  | n + 1, w, h => by
    simp only [wordsP, stepW, List.mem_flatMap, ext1] at h
    obtain ⟨u, hu, h⟩ := h
    have := words_len n u hu
    rcases List.mem_cons.mp h with rfl | h
    · simp [this]
    · split at h
      · simp at h; rw [h]; simp [this]
      · cases h
theorem few : ∀ n < 13, (wordsP n).length ≤ 1000 := by decide +kernel
theorem last_at {w : List Int} (h : w ≠ []) : ∃ x, w.getLast? = some x ∧ L2.atI (w.map Val.int) (-1) = some (.int x) := by
  refine ⟨w.getLast h, List.getLast?_eq_getLast h, at_neg (i := 0) ?_ ?_⟩
  · rw [List.length_map, List.getElem?_map, ← List.getLast?_eq_getElem?, List.getLast?_eq_getLast h]; rfl
  · rw [List.length_map]; exact List.length_pos_iff.mpr h
theorem stepW_take {ws : List (List Int)} {i : Nat} {w : List Int} (h : ws[i]? = some w) : stepW (ws.take (i + 1)) = stepW (ws.take i) ++ ext1 w := by
  rw [List.take_succ, h]
  simp [stepW]
theorem stepW_take_le (ws : List (List Int)) (i : Nat) : (stepW (ws.take i)).length ≤ (stepW ws).length := by
  have : ws = ws.take i ++ ws.drop i := (List.take_append_drop i ws).symm
  rw [this]
  simp only [stepW, List.flatMap_append, List.length_append]
  rw [← this]
  omega
def bIn : B := .cons (.ex (.mt .append (.slot 3) (.cons (.bin .add (.slot 4) (.tup (.cons (.k (.int 0)) .nil))) .nil)))
  (.cons (.ife (.or (.cmp .eq (.slot 4) (.tup .nil)) (.cmp .eq (.idx (.slot 4) (.neg (.k (.int 1)))) (.k (.int 0)))) (.cons (.ex (.mt .append (.slot 3) (.cons (.bin .add (.slot 4) (.tup (.cons (.k (.int 1)) .nil))) .nil))) .nil) .nil) .nil)
theorem t_word {d : Nat} {w : List Int} {a b c e : Option Val} {S : Store} : ev (C tbl d) (.or (.cmp .eq (.slot 4) (.tup .nil)) (.cmp .eq (.idx (.slot 4) (.neg (.k (.int 1)))) (.k (.int 0)))) [a, b, c, e, some (tv w)] S = some (.bl (decide (w = [] ∨ w.getLast? = some 0)), S) := by
  by_cases h : w = []
  · have e1 : cmpV .eq (tv w) (.tup []) S = some true := by
      show eqV (.tup (w.map .int)) (.tup (([] : List Int).map .int)) S = _
      rw [eqV_tup, decide_eq_true h]
    rw [ev_or1 (ev_cmp rfl (ev_tup evs_nil (by decide)) e1)]
    simp [h]
  · have e1 : cmpV .eq (tv w) (.tup []) S = some false := by
      show eqV (.tup (w.map .int)) (.tup (([] : List Int).map .int)) S = _
      rw [eqV_tup, decide_eq_false h]
    obtain ⟨x, hx, hat⟩ := last_at h
    have e2 : ev (C tbl d) (.cmp .eq (.idx (.slot 4) (.neg (.k (.int 1)))) (.k (.int 0))) [a, b, c, e, some (tv w)] S = some (.bl (decide (x = 0)), S) :=
      ev_cmp (ev_idx rfl rfl (show ixV (tv w) (.int (-1)) S = _ from hat)) rfl (show cmpV .eq (.int x) (.int 0) S = _ from eqV_int (S := S))
    rw [ev_or0 (ev_cmp rfl (ev_tup evs_nil (by decide)) e1) e2]
    simp [h, hx]
theorem inner {d f : Nat} {k : Bool} {ws : List (List Int)} {S : Store} {n iv : Val} {z : Option Val} (hf : S[f]? = some (.lst k (lv ws))) (hw : ∀ w ∈ ws, w.length < 1000) (hl : (stepW ws).length < 100000) :
    ∃ z', loopGo (asg (C tbl d) (.slot 4)) (exs (C tbl d) 200 bIn) (.seq (.l f)) (ws.length + 1) 0 [some n, some (.ref f), some iv, some (.ref S.length), z] (S ++ [.lst false []]) =
      some (.nx, [some n, some (.ref f), some iv, some (.ref S.length), z'], S ++ [.lst false (lv (stepW ws))]) := by
  obtain ⟨ρ', S', e, z', rfl, rfl⟩ := loop_inv (set := asg (C tbl d) (.slot 4)) (body := exs (C tbl d) 200 bIn) (J := .seq (.l f)) (vs := lv ws) (ρ := [some n, some (.ref f), some iv, some (.ref S.length), z]) (S := S ++ [.lst false []])
    (fun i ρ S' => ∃ z, ρ = [some n, some (.ref f), some iv, some (.ref S.length), z] ∧ S' = S ++ [.lst false (lv (stepW (ws.take i)))]) ⟨z, rfl, rfl⟩
    (by
      rintro i ρ S' ⟨z, rfl, rfl⟩
      exact its_l hf _ (.add _ _) i) (by
      rintro i v ρ S' ⟨z, rfl, rfl⟩ hv
      simp only [lv, List.getElem?_map, Option.map_eq_some_iff] at hv
      obtain ⟨w, hw', rfl⟩ := hv
      have hwl := hw w (List.mem_of_getElem? hw')
      have hb := stepW_take_le ws i
      have hb2 := stepW_take_le ws (i + 1)
      refine ⟨_, _, rfl, ?_⟩
      have st := stepW_take hw'
      have a1 : ex (C tbl d) 200 (.ex (.mt .append (.slot 3) (.cons (.bin .add (.slot 4) (.tup (.cons (.k (.int 0)) .nil))) .nil))) [some n, some (.ref f), some iv, some (.ref S.length), some (tv w)] (S ++ [.lst false (lv (stepW (ws.take i)))]) =
          some (.nx, [some n, some (.ref f), some iv, some (.ref S.length), some (tv w)], S ++ [.lst false (lv (stepW (ws.take i) ++ [w ++ [0]]))]) := by
        refine (ex_ex (ev_mt rfl (rcv_lst get_last) (evs_cons (ev_bin rfl (ev_tup (evs_cons rfl evs_nil) (by decide)) (tup_add hwl)) evs_nil) (app_lst get_last (by rw [lv_len]; omega)))).trans ?_
        rw [set_last, lv_app]; rfl
      by_cases hc : w = [] ∨ w.getLast? = some 0
      · have he : ext1 w = [w ++ [0], w ++ [1]] := by simp [ext1, hc]
        have a2 : ex (C tbl d) 200 (.ex (.mt .append (.slot 3) (.cons (.bin .add (.slot 4) (.tup (.cons (.k (.int 1)) .nil))) .nil))) [some n, some (.ref f), some iv, some (.ref S.length), some (tv w)] (S ++ [.lst false (lv (stepW (ws.take i) ++ [w ++ [0]]))]) =
            some (.nx, [some n, some (.ref f), some iv, some (.ref S.length), some (tv w)], S ++ [.lst false (lv (stepW (ws.take i) ++ ext1 w))]) := by
          refine (ex_ex (ev_mt rfl (rcv_lst get_last) (evs_cons (ev_bin rfl (ev_tup (evs_cons rfl evs_nil) (by decide)) (tup_add hwl)) evs_nil) (app_lst get_last (by rw [lv_len, List.length_append]; simp only [List.length_singleton]; omega)))).trans ?_
          rw [set_last, he, lv_app, lv_app]
          simp [lv, tv]
        refine ⟨_, _, exs_nx a1 (exs_nx (ex_if (t_word.trans (by rw [decide_eq_true hc])) (exs_nx a2 exs_nil)) exs_nil), some (tv w), rfl, ?_⟩
        rw [st]
      · have he : ext1 w = [w ++ [0]] := by simp [ext1, hc]
        refine ⟨_, _, exs_nx a1 (exs_nx (ex_else (t_word.trans (by rw [decide_eq_false hc])) exs_nil) exs_nil), some (tv w), rfl, ?_⟩
        rw [st, he])
  refine ⟨z', ?_⟩
  rw [lv_len] at e
  rw [e, List.take_length]
theorem c_words {f0 : Nat} (hTab : tbl[f0]? = some DWords) {d n : Nat} {S : Store} (hn : n ≤ 12) : ∃ r S', C tbl (d + 1) f0 [.int (n : Int)] S = some (.ref r, S') ∧ Le S S' ∧ S'[r]? = some (.lst false (lv (wordsP n))) := by
  obtain ⟨ρ', S', e, f, z1, z2, z3, rfl, hf, hl⟩ := loop_inv (set := asg (C tbl d) (.slot 2)) (body := exs (C tbl d) 200 (.cons (.asg (.slot 3) (.lst .nil)) (.cons (.loop (.slot 4) (.ex (.slot 1)) bIn) (.cons (.asg (.slot 1) (.bi .list (.cons (.slot 3) .nil))) .nil))))
    (J := .rng 0 1 n) (vs := (List.range n).map fun i : Nat => .int (0 + (i : Int))) (ρ := [some (.int (n : Int)), some (.ref S.length), none, none, none]) (S := S ++ [.lst false (lv [[]])])
    (fun i ρ S' => ∃ f z1 z2 z3, ρ = [some (.int (n : Int)), some (.ref f), z1, z2, z3] ∧ S'[f]? = some (.lst false (lv (wordsP i))) ∧ Le S S') ⟨_, _, _, _, rfl, get_last, .add _ _⟩ (fun i ρ S' _ => its_rng S' (.refl _) i) (by
      rintro i v ρ S' ⟨f, z1, z2, z3, rfl, hf, hl⟩ hv
      have hi : i < n := by
        have := (List.getElem?_eq_some_iff.mp hv).1
        simpa using this
      have b1 := few (i + 1) (by omega)
      refine ⟨_, _, rfl, ?_⟩
      obtain ⟨z', e⟩ := inner (d := d) (n := .int (n : Int)) (iv := v) (z := z3) hf (fun w hw => by rw [words_len i w hw]; omega) (show (stepW (wordsP i)).length < 100000 from Nat.lt_of_le_of_lt b1 (by decide))
      refine ⟨_, _, exs_nx (ex_asg (ev_lst evs_nil (by decide)) rfl) (exs_nx (ex_loop (evI_ex rfl (src_l (by exact (Le.add S' _).get hf))) (by rw [itLen_l ((Le.add S' _).get hf), lv_len]) e) (exs_nx (ex_asg (ev_bi (evs_cons rfl evs_nil) (show biV .list [.ref S'.length] _ = _ from by
          simp only [biV, get_last]
          exact newL_ok (by rw [lv_len]; exact Nat.le_trans b1 (by decide)))) rfl) exs_nil)), _, some v, some (.ref S'.length), z', rfl, get_last, hl.trans ((Le.add _ _).trans (.add _ _))⟩)
  simp only [List.length_map, List.length_range] at e hf
  exact ⟨f, S', (callF_at hTab rfl).trans (run_ret (exs_nx (ex_asg (ev_lst (evs_cons (ev_tup evs_nil (by decide)) evs_nil) (by decide)) rfl) (exs_nx (ex_loop (evI_rng1 (evs_cons rfl evs_nil) (rng_small (by omega))) rfl e) (exs_ret (ex_ret rfl))))), hl, hf⟩
def absI (i : Int) : Int := if i < 0 then -i else i
def unlikeP (a b : List Int) : Int := ((a.zip b).map fun p => absI (p.1 - p.2)).sum
theorem zipW (a b : List Int) : List.zipWith (fun x y => Val.tup [x, y]) (a.map .int) (b.map .int) = (a.zip b).map fun p => Val.tup [.int p.1, .int p.2] := by
  induction a generalizing b with
  | nil => rfl
  | cons x a ih =>
    cases b with
    | nil => rfl
    | cons y b => simp [ih]
theorem c_unlike {f : Nat} (hTab : tbl[f]? = some DUnlike) {d : Nat} {a b : List Int} {S : Store} (hl : a.length < 1000) : Has (C tbl (d + 1) f [tv a, tv b] S) S (.int (unlikeP a b)) := by
  have hi : Its (.zip [.t (a.map .int), .t (b.map .int)]) ((a.zip b).map fun p => Val.tup [.int p.1, .int p.2]) S := by
    rw [← zipW]; exact its_zip2 its_t its_t
  have hL : Has (lcGo (dTurn [2, 3] (asg (C tbl d) (.tup (.cons (.slot 2) (.cons (.slot 3) .nil)))) (ev (C tbl d) (.k (.bl true))) (ev (C tbl d) (.bi .abs (.cons (.bin .sub (.slot 2) (.slot 3)) .nil))) [some (tv a), some (tv b), none, none]) (.zip [.t (a.map .int), .t (b.map .int)]) ((a.zip b).length + 1) 0 0 S) S
      ((a.zip b).filterMap fun p => some (Val.int (absI (p.1 - p.2)))) := by
    refine lc_map _ hi (by rw [List.length_zip]; omega) fun p _ S' l => ?_
    exact ⟨S', turn_yes rfl rfl, .refl _⟩
  obtain ⟨S2, e2, l2⟩ := hL
  rw [filterMap_some] at e2
  refine ⟨_, (callF_at hTab rfl).trans (run_ret (exs_ret (ex_ret (ev_bi (evs_cons (ev_lc (evI_zip (evs_cons rfl (evs_cons rfl evs_nil)) rfl) ?_ e2) evs_nil) (sum_lst (k := false) (l := (a.zip b).map fun p => absI (p.1 - p.2)) ?_))))), l2.trans (.add _ _)⟩
  · show min (a.map Val.int).length (b.map Val.int).length = _
    simp
  · rw [get_last, List.map_map]; rfl
def sk (s : PySem.Str) : L2.Key := .inr s
def dk4 (l m t : Int) : List (L2.Key × Val) := [(sk "cells", .ref 2), (sk "left", .int l), (sk "mixed", .int m), (sk "turn", .int t)]
theorem n1 : (("cells" : PySem.Str) = "left") = False := by simp only [eq_iff_iff, iff_false]; decide +kernel
theorem n2 : (("cells" : PySem.Str) = "mixed") = False := by simp only [eq_iff_iff, iff_false]; decide +kernel
theorem n3 : (("cells" : PySem.Str) = "turn") = False := by simp only [eq_iff_iff, iff_false]; decide +kernel
theorem n4 : (("left" : PySem.Str) = "mixed") = False := by simp only [eq_iff_iff, iff_false]; decide +kernel
theorem n5 : (("left" : PySem.Str) = "turn") = False := by simp only [eq_iff_iff, iff_false]; decide +kernel
theorem n6 : (("mixed" : PySem.Str) = "turn") = False := by simp only [eq_iff_iff, iff_false]; decide +kernel
theorem n7 : (("left" : PySem.Str) = "cells") = False := by simp only [eq_iff_iff, iff_false]; decide +kernel
theorem n8 : (("mixed" : PySem.Str) = "left") = False := by simp only [eq_iff_iff, iff_false]; decide +kernel
theorem n9 : (("turn" : PySem.Str) = "left") = False := by simp only [eq_iff_iff, iff_false]; decide +kernel
theorem n10 : (("turn" : PySem.Str) = "mixed") = False := by simp only [eq_iff_iff, iff_false]; decide +kernel
section
variable {S : Store} {l m t : Int} (h : S[3]? = some (.dk false (dk4 l m t)))
include h
theorem g_cells : ixV (.ref 3) (.str "cells") S = some (.ref 2) := by simp [ixV, h, dGet, keyOf, dk4, getK, sk]
theorem g_left : ixV (.ref 3) (.str "left") S = some (.int l) := by simp [ixV, h, dGet, keyOf, dk4, getK, sk, n1]
theorem g_mixed : ixV (.ref 3) (.str "mixed") S = some (.int m) := by simp [ixV, h, dGet, keyOf, dk4, getK, sk, n2, n4]
theorem g_turn : ixV (.ref 3) (.str "turn") S = some (.int t) := by simp [ixV, h, dGet, keyOf, dk4, getK, sk, n3, n5, n6]
theorem s_left (x : Int) : setV (.ref 3) (.str "left") (.int x) S = some (S.set 3 (.dk false (dk4 x m t))) := by
  have hk : dPut (.dk false (dk4 l m t)) (.str "left") (.int x) = some (.dk false (dk4 x m t)) := by
    simp only [dPut, keyOf]
    rw [if_pos (show (dk4 l m t).length < PySem.sizeLine from Nat.lt_of_lt_of_le (by decide : 4 < 1000000) (le_size (Nat.le_refl _)))]
    simp [putV, dk4, getK, sk, n1, n7, n8, n9, n4, n5, replK]
  simp only [setV, h, hk]
theorem s_turn (x : Int) : setV (.ref 3) (.str "turn") (.int x) S = some (S.set 3 (.dk false (dk4 l m x))) := by
  have hk : dPut (.dk false (dk4 l m t)) (.str "turn") (.int x) = some (.dk false (dk4 l m x)) := by
    simp only [dPut, keyOf]
    rw [if_pos (show (dk4 l m t).length < PySem.sizeLine from Nat.lt_of_lt_of_le (by decide : 4 < 1000000) (le_size (Nat.le_refl _)))]
    simp [putV, dk4, getK, sk, n3, n5, n6, replK]
  simp only [setV, h, hk]
end
/-- the source of numbers, at its places -/
def SrcOk (S : Store) : Prop := ∃ (cs : List Int) (l m t : Int), S[3]? = some (.dk false (dk4 l m t)) ∧ S[2]? = some (.lst false (cs.map .int)) ∧ cs.length ≤ 63
/-- all but the source stays -/
structure Fr (S S' : Store) : Prop where
  src : SrcOk S'
  keep : ∀ k o, k ≠ 2 → k ≠ 3 → S[k]? = some o → S'[k]? = some o
theorem Fr.trans {S1 S2 S3 : Store} (a : Fr S1 S2) (b : Fr S2 S3) : Fr S1 S3 := ⟨b.src, fun k o h2 h3 h => b.keep k o h2 h3 (a.keep k o h2 h3 h)⟩
theorem Fr.le {S S' : Store} (h : SrcOk S) (l : Le S S') : Fr S S' := by
  obtain ⟨cs, x, m, t, h3, h2, hl⟩ := h
  exact ⟨⟨cs, x, m, t, l.get h3, l.get h2, hl⟩, fun k o _ _ e => l.get e⟩
theorem mod_ok {i j : Int} {S : Store} (h : 0 < j) : binV .mod (.int i) (.int j) S = some (.int (i % j), S) := by
  show (if decide (0 < j) = true then some (Val.int (i % j), S) else none) = _
  rw [decide_eq_true h]; rfl
theorem fdiv_ok {i j : Int} {S : Store} (h : 0 < j) (h2 : j < 1073741824) : binV .fdiv (.int i) (.int j) S = some (.int (i / j), S) := by
  show (if (decide (0 < j) && decide (j < 1073741824)) = true then some (Val.int (i / j), S) else none) = _
  rw [decide_eq_true h, decide_eq_true h2]; rfl
theorem set_at {S : Store} {n : Nat} {o o' : Obj} (h : S[n]? = some o) : (S.set n o')[n]? = some o' := List.getElem?_set_self (List.getElem?_eq_some_iff.mp h).1
theorem set_ne {S : Store} {n k : Nat} {o' : Obj} (h : n ≠ k) : (S.set n o')[k]? = S[k]? := List.getElem?_set_ne h
theorem asg_sub {cf : CF} {o i : X} {x y v : Val} {ρ : Rf.Env} {S S1 S2 S3 : Store} (h1 : ev cf o ρ S = some (x, S1)) (h2 : ev cf i ρ S1 = some (y, S2)) (h3 : setV x y v S2 = some S3) : asg cf (.sub o i) v ρ S = some (ρ, S3) := by
  show bnd (ev cf o ρ S) _ = _
  rw [h1, bnd_some, h2, bnd_some, h3]
theorem ex_whl {cf : CF} {fu : Nat} {c : X} {b : B} {ρ : Rf.Env} {S : Store} {r : R3} (h : whileGo (ev cf c) (exs cf fu b) fu ρ S = r) : ex cf fu (.whl c b) ρ S = r := h
theorem len_map (cs : List Int) : (cs.map Val.int).length = cs.length := List.length_map ..
def tPick : X := .and (.cmp .lt (.idx (.slot 0) (.k (.str "left"))) (.k (.int 2))) (.cmp .gt (.bi .len (.cons (.slot 2) .nil)) (.k (.int 0)))
def bPick : B := .cons (.asg (.sub (.slot 0) (.k (.str "left"))) (.mt .pop (.slot 2) .nil)) .nil
theorem pick_loop {d : Nat} {most : Int} {S : Store} (h : SrcOk S) : ∃ S', whileGo (ev (C tbl d) tPick) (exs (C tbl d) 200 bPick) 200 [some (.ref 3), some (.int most), some (.ref 2), none, none, none] S = some (.nx, [some (.ref 3), some (.int most), some (.ref 2), none, none, none], S') ∧ Fr S S' := by
  obtain ⟨cs, l, m, t, h3, h2, hl⟩ := h
  obtain ⟨ρ', S', e, rfl, q⟩ := while_meas (test := ev (C tbl d) tPick) (body := exs (C tbl d) 200 bPick)
    (fun n ρ S' => ρ = [some (.ref 3), some (.int most), some (.ref 2), none, none, none] ∧ Fr S S' ∧ ∃ (cs : List Int) (l m t : Int), S'[3]? = some (.dk false (dk4 l m t)) ∧ S'[2]? = some (.lst false (cs.map .int)) ∧ cs.length ≤ 63 ∧ cs.length = n)
    (fun ρ S' => ρ = [some (.ref 3), some (.int most), some (.ref 2), none, none, none] ∧ Fr S S') (fu := 200) (n := cs.length) (ρ := [some (.ref 3), some (.int most), some (.ref 2), none, none, none]) (S := S)
    ⟨rfl, .le ⟨cs, l, m, t, h3, h2, hl⟩ (.refl S), cs, l, m, t, h3, h2, hl, rfl⟩ (by omega) (by
      rintro n ρ S' ⟨rfl, fr, cs, l, m, t, h3, h2, hl, rfl⟩
      have c1 : ev (C tbl d) (.cmp .lt (.idx (.slot 0) (.k (.str "left"))) (.k (.int 2))) [some (.ref 3), some (.int most), some (.ref 2), none, none, none] S' = some (.bl (decide (l < 2)), S') := ev_cmp (ev_idx rfl rfl (g_left h3)) rfl rfl
      have c2 : ev (C tbl d) (.cmp .gt (.bi .len (.cons (.slot 2) .nil)) (.k (.int 0))) [some (.ref 3), some (.int most), some (.ref 2), none, none, none] S' = some (.bl (decide ((0 : Int) < ((cs.map Val.int).length : Nat))), S') := ev_cmp (ev_bi (evs_cons rfl evs_nil) (len_lst h2)) rfl rfl
      by_cases hl2 : l < 2
      · rw [decide_eq_true hl2] at c1
        by_cases hc : 0 < cs.length
        · rw [len_map, decide_eq_true (by omega)] at c2
          refine .inr ⟨S', ev_and1 c1 c2, ?_⟩
          have hx : (cs.map Val.int)[(cs.map Val.int).length - 1]? = some (.int cs[cs.length - 1]) := by
            rw [len_map, List.getElem?_map, List.getElem?_eq_getElem (by omega)]; rfl
          have hp : mtV .pop (.ref 2) [] S' = some (.int cs[cs.length - 1], S'.set 2 (.lst false (cs.map Val.int).dropLast)) := by simp only [mtV, h2, hx]
          have h3' : (S'.set 2 (.lst false (cs.map Val.int).dropLast))[3]? = some (.dk false (dk4 l m t)) := by rw [set_ne (by decide)]; exact h3
          have h2' : ((S'.set 2 (.lst false (cs.map Val.int).dropLast)).set 3 (.dk false (dk4 cs[cs.length - 1] m t)))[2]? = some (.lst false (cs.dropLast.map .int)) := by
            rw [set_ne (by decide), set_at h2, List.map_dropLast]
          refine ⟨_, _, exs_nx (ex_asg (ev_mt rfl (rcv_lst h2) evs_nil hp) (asg_sub rfl rfl (s_left h3' _))) exs_nil, cs.dropLast.length, by rw [List.length_dropLast]; omega, rfl, ⟨⟨cs.dropLast, _, m, t, set_at h3', h2', by rw [List.length_dropLast]; omega⟩, fun k o k2 k3 e => ?_⟩, cs.dropLast, _, m, t, set_at h3', h2', by rw [List.length_dropLast]; omega, rfl⟩
          rw [set_ne (Ne.symm k3), set_ne (Ne.symm k2)]
          exact fr.keep k o k2 k3 e
        · rw [len_map, decide_eq_false (by omega)] at c2
          exact .inl ⟨S', ev_and1 c1 c2, rfl, fr⟩
      · rw [decide_eq_false hl2] at c1
        exact .inl ⟨S', ev_and0 c1, rfl, fr⟩)
  exact ⟨S', e, q⟩
theorem fr_left {S S' : Store} {cs : List Int} {l m t x y : Int} (fr : Fr S S') (h3 : S'[3]? = some (.dk false (dk4 l m t))) (h2 : S'[2]? = some (.lst false (cs.map .int))) (hl : cs.length ≤ 63) : Fr S (S'.set 3 (.dk false (dk4 x m y))) :=
  ⟨⟨cs, x, m, y, set_at h3, by rw [set_ne (by decide)]; exact h2, hl⟩, fun k o k2 k3 e => by rw [set_ne (Ne.symm k3)]; exact fr.keep k o k2 k3 e⟩
theorem c_pick {f : Nat} (hTab : tbl[f]? = some DPick) {d : Nat} {most : Int} {S : Store} (h : SrcOk S) (h2 : 2 ≤ most) (hm : most < 1073741824) : ∃ r S', C tbl (d + 1) f [.ref 3, .int most] S = some (.int r, S') ∧ 0 ≤ r ∧ r < most ∧ Fr S S' := by
  obtain ⟨cs0, l0, m0, t0, e30, _⟩ := id h
  obtain ⟨S1, e1, fr⟩ := pick_loop (d := d) (most := most) h
  obtain ⟨cs, l, m, t, e3, e2, hl⟩ := fr.src
  have mp : (0 : Int) < most := by omega
  have i1 : ex (C tbl d) 200 (.ife (.cmp .lt (.slot 1) (.k (.int 2))) (.cons (.ret (.k (.int 0))) .nil) .nil) [some (.ref 3), some (.int most), none, none, none, none] S = some (.nx, [some (.ref 3), some (.int most), none, none, none, none], S) :=
    ex_else (show _ = some (Val.bl false, S) from ev_cmp (x := .int most) (y := .int 2) rfl rfl (show some (decide (most < 2)) = some false by rw [decide_eq_false (by omega)])) exs_nil
  have i2 : ex (C tbl d) 200 (.asg (.slot 2) (.idx (.slot 0) (.k (.str "cells")))) [some (.ref 3), some (.int most), none, none, none, none] S = some (.nx, [some (.ref 3), some (.int most), some (.ref 2), none, none, none], S) := ex_asg (ev_idx rfl rfl (g_cells e30)) rfl
  have i3 := ex_whl e1
  have i4 : ex (C tbl d) 200 (.asg (.slot 3) (.idx (.slot 0) (.k (.str "left")))) [some (.ref 3), some (.int most), some (.ref 2), none, none, none] S1 = some (.nx, [some (.ref 3), some (.int most), some (.ref 2), some (.int l), none, none], S1) := ex_asg (ev_idx rfl rfl (g_left e3)) rfl
  by_cases hl1 : 1 < l
  · have i5 : ex (C tbl d) 200 (.ife (.cmp .gt (.slot 3) (.k (.int 1))) (.cons (.asg (.sub (.slot 0) (.k (.str "left"))) (.bin .fdiv (.slot 3) (.slot 1))) (.cons (.ret (.bin .mod (.bi .int (.cons (.slot 3) .nil)) (.slot 1))) .nil)) .nil)
        [some (.ref 3), some (.int most), some (.ref 2), some (.int l), none, none] S1 = some (.ret (.int (l % most)), [some (.ref 3), some (.int most), some (.ref 2), some (.int l), none, none], S1.set 3 (.dk false (dk4 (l / most) m t))) :=
      ex_if (ev_cmp (x := .int l) (y := .int 1) rfl rfl (show some (decide (1 < l)) = some true by rw [decide_eq_true hl1]))
        (exs_nx (ex_asg (ev_bin rfl rfl (fdiv_ok mp hm)) (asg_sub rfl rfl (s_left e3 _))) (exs_ret (ex_ret (ev_bin (ev_bi (evs_cons rfl evs_nil) rfl) rfl (mod_ok mp)))))
    have run : C tbl (d + 1) f [.ref 3, .int most] S = some (.int (l % most), S1.set 3 (.dk false (dk4 (l / most) m t))) := (callF_at hTab rfl).trans (run_ret (exs_nx i1 (exs_nx i2 (exs_nx i3 (exs_nx i4 (exs_ret i5))))))
    exact ⟨_, _, run, Int.emod_nonneg _ (by omega), Int.emod_lt_of_pos _ mp, fr_left fr e3 e2 hl⟩
  · have i5 : ex (C tbl d) 200 (.ife (.cmp .gt (.slot 3) (.k (.int 1))) (.cons (.asg (.sub (.slot 0) (.k (.str "left"))) (.bin .fdiv (.slot 3) (.slot 1))) (.cons (.ret (.bin .mod (.bi .int (.cons (.slot 3) .nil)) (.slot 1))) .nil)) .nil)
        [some (.ref 3), some (.int most), some (.ref 2), some (.int l), none, none] S1 = some (.nx, [some (.ref 3), some (.int most), some (.ref 2), some (.int l), none, none], S1) :=
      ex_else (ev_cmp (x := .int l) (y := .int 1) rfl rfl (show some (decide (1 < l)) = some false by rw [decide_eq_false hl1])) exs_nil
    have fr2 : Fr S (S1.set 3 (.dk false (dk4 l m (t + 1)))) := fr_left fr e3 e2 hl
    have e3' : (S1.set 3 (.dk false (dk4 l m (t + 1))))[3]? = some (.dk false (dk4 l m (t + 1))) := set_at e3
    have i6 : ex (C tbl d) 200 (.asg (.sub (.slot 0) (.k (.str "turn"))) (.bin .add (.idx (.slot 0) (.k (.str "turn"))) (.k (.int 1)))) [some (.ref 3), some (.int most), some (.ref 2), some (.int l), none, none] S1 =
        some (.nx, [some (.ref 3), some (.int most), some (.ref 2), some (.int l), none, none], S1.set 3 (.dk false (dk4 l m (t + 1)))) := ex_asg (ev_bin (ev_idx rfl rfl (g_turn e3)) rfl rfl) (asg_sub rfl rfl (s_turn e3 _))
    generalize S1.set 3 (.dk false (dk4 l m (t + 1))) = S2 at fr2 e3' i6
    have i7 : ex (C tbl d) 200 (.asg (.slot 4) (.idx (.slot 0) (.k (.str "turn")))) [some (.ref 3), some (.int most), some (.ref 2), some (.int l), none, none] S2 = some (.nx, [some (.ref 3), some (.int most), some (.ref 2), some (.int l), some (.int (t + 1)), none], S2) := ex_asg (ev_idx rfl rfl (g_turn e3')) rfl
    have i8 : ∃ u, 0 ≤ u ∧ u < 998244353 ∧ ex (C tbl d) 200 (.asg (.slot 5) (.bin .mod (.bi .int (.cons (.bin .add (.idx (.slot 0) (.k (.str "mixed"))) (.bin .mul (.slot 4) (.k (.int 104729)))) .nil)) (.k (.int 998244353)))) [some (.ref 3), some (.int most), some (.ref 2), some (.int l), some (.int (t + 1)), none] S2 =
        some (.nx, [some (.ref 3), some (.int most), some (.ref 2), some (.int l), some (.int (t + 1)), some (.int u)], S2) :=
      ⟨_, Int.emod_nonneg _ (by decide), Int.emod_lt_of_pos _ (by decide), ex_asg (ev_bin (ev_bi (evs_cons (ev_bin (ev_idx rfl rfl (g_mixed e3')) (ev_bin rfl rfl (mul_r (by decide))) rfl) evs_nil) rfl) rfl (mod_ok (by decide))) rfl⟩
    obtain ⟨u, u0, u1, i8⟩ := i8
    have us : small64 u = true := by simp [small64]; omega
    have i9 : ∃ z, ex (C tbl d) 200 (.asg (.slot 5) (.bin .mod (.bi .int (.cons (.bin .add (.bin .mul (.slot 5) (.slot 5)) (.bin .mul (.slot 4) (.k (.int 17)))) .nil)) (.k (.int 2147483647)))) [some (.ref 3), some (.int most), some (.ref 2), some (.int l), some (.int (t + 1)), some (.int u)] S2 =
        some (.nx, [some (.ref 3), some (.int most), some (.ref 2), some (.int l), some (.int (t + 1)), some (.int z)], S2) :=
      ⟨_, ex_asg (ev_bin (ev_bi (evs_cons (ev_bin (ev_bin rfl rfl (mul_l us)) (ev_bin rfl rfl (mul_r (by decide))) rfl) evs_nil) rfl) rfl (mod_ok (by decide))) rfl⟩
    obtain ⟨z, i9⟩ := i9
    have i10 : ex (C tbl d) 200 (.ret (.bin .mod (.bi .int (.cons (.bin .fdiv (.slot 5) (.k (.int 16))) .nil)) (.slot 1))) [some (.ref 3), some (.int most), some (.ref 2), some (.int l), some (.int (t + 1)), some (.int z)] S2 =
        some (.ret (.int (z / 16 % most)), [some (.ref 3), some (.int most), some (.ref 2), some (.int l), some (.int (t + 1)), some (.int z)], S2) :=
      ex_ret (ev_bin (ev_bi (evs_cons (ev_bin rfl rfl (fdiv_ok (by decide) (by decide))) evs_nil) rfl) rfl (mod_ok mp))
    have run : C tbl (d + 1) f [.ref 3, .int most] S = some (.int (z / 16 % most), S2) := (callF_at hTab rfl).trans (run_ret (exs_nx i1 (exs_nx i2 (exs_nx i3 (exs_nx i4 (exs_nx i5 (exs_nx i6 (exs_nx i7 (exs_nx i8 (exs_nx i9 (exs_ret i10)))))))))))
    exact ⟨_, _, run, Int.emod_nonneg _ (by omega), Int.emod_lt_of_pos _ mp, fr2⟩
theorem c_open {f : Nat} (hTab : tbl[f]? = some DOpen) {d : Nat} {ns : List Int} (hn : ns.length ≤ 63) : ∃ S', C tbl (d + 1) f [.ref 0] [.lst true (ns.map .int)] = some (.ref 3, S') ∧ SrcOk S' := by
  have h0 : ([.lst true (ns.map .int)] : Store)[0]? = some (.lst true (ns.map Val.int)) := rfl
  obtain ⟨ρ', S', e, rfl, st, z, rfl⟩ := loop_inv (set := asg (C tbl d) (.slot 2)) (body := exs (C tbl d) 200 (.cons (.asg (.slot 1) (.bin .mod (.bi .int (.cons (.bin .add (.bin .add (.bin .mul (.slot 1) (.k (.int 69069))) (.bin .mul (.slot 2) (.k (.int 31)))) (.k (.int 5))) .nil)) (.k (.int 2147483629)))) .nil))
    (J := .seq (.l 0)) (vs := ns.map .int) (ρ := [some (.ref 0), some (.int 11), none, none]) (S := [.lst true (ns.map .int)])
    (fun i ρ S' => S' = [.lst true (ns.map .int)] ∧ ∃ st z, ρ = [some (.ref 0), some (.int st), z, none]) ⟨rfl, _, _, rfl⟩ (by
      rintro i ρ S' ⟨rfl, st, z, rfl⟩
      exact its_l h0 _ (.refl _) i) (by
      rintro i v ρ S' ⟨rfl, st, z, rfl⟩ hv
      simp only [List.getElem?_map, Option.map_eq_some_iff] at hv
      obtain ⟨x, _, rfl⟩ := hv
      exact ⟨_, _, rfl, _, _, exs_nx (ex_asg (ev_bin (ev_bi (evs_cons (ev_bin (ev_bin (ev_bin rfl rfl (mul_r (by decide))) (ev_bin rfl rfl (mul_r (by decide))) rfl) rfl rfl) evs_nil) rfl) rfl (mod_ok (by decide))) rfl) exs_nil, rfl, _, _, rfl⟩)
  rw [len_map] at e
  have hL : Has (lcGo (dTurn [2] (asg (C tbl d) (.slot 2)) (ev (C tbl d) (.k (.bl true))) (ev (C tbl d) (.bi .abs (.cons (.slot 2) .nil))) [some (.ref 0), some (.int st), z, none]) (.seq (.l 0)) (ns.length + 1) 0 0 [.lst true (ns.map .int)]) [.lst true (ns.map .int)]
      (ns.filterMap fun x => some (Val.int (absI x))) := by
    refine lc_map (t := Val.int) _ (its_l h0) (by omega) fun x _ S' l => ?_
    exact ⟨S', turn_yes rfl rfl, .refl _⟩
  have hT : ∀ (k : Nat) (i n : Nat), i + k = ns.length → n + k ≤ 1000000 → lcGo (dTurn [2] (asg (C tbl d) (.slot 2)) (ev (C tbl d) (.k (.bl true))) (ev (C tbl d) (.bi .abs (.cons (.slot 2) .nil))) [some (.ref 0), some (.int st), z, none]) (.seq (.l 0)) (k + 1) i n [.lst true (ns.map .int)] = some ((ns.drop i).map fun x => Val.int (absI x), [.lst true (ns.map .int)]) := by
    intro k
    induction k with
    | zero =>
      intro i n hi hn
      have q : itAt (.seq (.l 0)) i [.lst true (ns.map .int)] = some ((ns.map Val.int)[i]?) := rfl
      rw [List.getElem?_eq_none (by simp; omega)] at q
      simp only [lcGo, q]
      rw [List.drop_eq_nil_of_le (by omega)]
      rfl
    | succ k ih =>
      intro i n hi hn
      have q : itAt (.seq (.l 0)) i [.lst true (ns.map .int)] = some ((ns.map Val.int)[i]?) := rfl
      have hlt : i < ns.length := by omega
      rw [List.getElem?_map, List.getElem?_eq_getElem hlt] at q
      unfold lcGo
      rw [q]
      dsimp only [Option.map_some]
      rw [turn_yes (y := .int (absI ns[i])) (S1 := [.lst true (ns.map .int)]) rfl rfl, bnd_some]
      dsimp only
      rw [if_pos (Nat.lt_of_lt_of_le (show n < 1000000 by omega) (le_size (Nat.le_refl _))), ih (i + 1) (n + 1) (by omega) (by omega), bnd_some, List.drop_eq_getElem_cons hlt]
      rfl
  have e2 := hT ns.length 0 0 (by omega) (by omega)
  rw [List.drop_zero] at e2
  have i3 : ex (C tbl d) 200 (.asg (.slot 3) (.lc (.bi .abs (.cons (.slot 2) .nil)) (.slot 2) (.ex (.slot 0)) (.k (.bl true)) [2])) [some (.ref 0), some (.int st), z, none] [.lst true (ns.map .int)] =
      some (.nx, [some (.ref 0), some (.int st), z, some (.ref 1)], [.lst true (ns.map .int), .lst false (ns.map fun x => Val.int (absI x))]) := ex_asg (ev_lc (evI_ex rfl rfl) (len_map ns) e2) rfl
  have rv : ev (C tbl d) (.rev (.slot 3)) [some (.ref 0), some (.int st), z, some (.ref 1)] [.lst true (ns.map .int), .lst false (ns.map fun x => Val.int (absI x))] =
      some (.ref 2, [.lst true (ns.map .int), .lst false (ns.map fun x => Val.int (absI x)), .lst false (ns.map fun x => Val.int (absI x)).reverse]) := by
    show newL (ns.map fun x => Val.int (absI x)).reverse _ = _
    rw [newL_ok (by simp; omega)]; rfl
  have dp : ∀ (v : Int) (S : Store), dispV [.str "cells", .str "left", .str "mixed", .str "turn"] [.ref 2, .int 1, .int v, .int 0] S = some (.ref S.length, S ++ [.dk false (dk4 1 v 0)]) := by
    intro v S
    have hk : dispK [.str "cells", .str "left", .str "mixed", .str "turn"] [.ref 2, .int 1, .int v, .int 0] = some (dk4 1 v 0) := rfl
    have hf : (dk4 1 v 0).foldl (fun acc kv => putV acc kv.1 kv.2) [] = dk4 1 v 0 := by simp [putV, dk4, getK, sk, n1, n2, n3, n4, n5, n6]
    simp only [dispV, hk, hf]
    rfl
  refine ⟨_, (callF_at hTab rfl).trans (run_ret (exs_nx rfl (exs_nx (ex_loop (evI_ex rfl rfl) (len_map ns) e) (exs_nx i3 (exs_ret (ex_ret (show bnd (evs _ _ _ _) _ = _ from by
    rw [evs_cons rv (evs_cons rfl (evs_cons rfl (evs_cons rfl evs_nil))), bnd_some]
    exact dp st _))))))), ?_⟩
  refine ⟨(ns.map absI).reverse, 1, st, 0, rfl, ?_, by simpa using hn⟩
  show some (Obj.lst false (ns.map fun x => Val.int (absI x)).reverse) = _
  rw [← List.map_reverse, ← List.map_reverse, List.map_map]; rfl
end Cm

/-! Cm2: more plain lemmas for the laws' bodies. -/
namespace Cm
open Rf
def bnth : B → Nat → Sx
  | .cons s _, 0 => s
  | .cons _ b, n + 1 => bnth b n
  | .nil, _ => .pas
def okD (d : PySem.PyData) : Bool := reprOk d && PySem.SeqAt.shaped (.str d.shown)
/-- repr of equal things -/
theorem repr_ne {D : PySem.PyData} {v w : Val} {a b : X} {ρ : Rf.Env} {S S1 S2 : Store} {cf : CF} (hd : okD D = true) (h1 : ev cf a ρ S = some (v, S1)) (d1 : dataOf S1 v = some D) (h2 : ev cf b ρ S1 = some (w, S2)) (d2 : dataOf S2 w = some D) :
    ev cf (.cmp .ne (.bi .repr (.cons a .nil)) (.bi .repr (.cons b .nil))) ρ S = some (.bl false, S2) ∧ ev cf (.cmp .eq (.bi .repr (.cons a .nil)) (.bi .repr (.cons b .nil))) ρ S = some (.bl true, S2) := by
  unfold okD at hd
  rw [Bool.and_eq_true] at hd
  have e1 := ev_bi (f := .repr) (evs_cons h1 evs_nil) (reprV_data d1 hd.1)
  have e2 := ev_bi (f := .repr) (evs_cons h2 evs_nil) (reprV_data d2 hd.1)
  exact ⟨ev_cmp e1 e2 (cmp_str hd.2).1, ev_cmp e1 e2 (cmp_str hd.2).2⟩
theorem dat_int {S : Store} (i : Int) : dataOf S (.int i) = some (.int i) := rfl
theorem dat_tv {S : Store} (w : List Int) : dataOf S (tv w) = some (.tuple (w.map .int)) := data_tup
def dws (ws : List (List Int)) : List PySem.PyData := ws.map fun l => .tuple (l.map .int)
/-- a tuple of tuples of ints -/
theorem dat_tlv {S : Store} {ws : List (List Int)} : dataOf S (.tup (lv ws)) = some (.tuple (dws ws)) := by
  unfold dataOf toD
  simp only [lv]
  rw [mapO_all (g := fun v => match v with | .tup xs => .tuple (xs.map fun v => match v with | .int i => .int i | _ => .none) | _ => .none)]
  · simp [tv, dws]
  · intro x hx
    obtain ⟨l, _, rfl⟩ := List.mem_map.mp hx
    unfold toD
    simp only [tv, toD_ints, Option.map_some]
    simp
theorem dat_lv {S : Store} {n : Nat} {lk : Bool} {ws : List (List Int)} (h : S[n]? = some (.lst lk (lv ws))) : dataOf S (.ref n) = some (.list (dws ws)) := data_tups h
/-- [an int, a word] -/
theorem dat_iw {S : Store} {n : Nat} {lk : Bool} {x : Int} {w : List Int} (h : S[n]? = some (.lst lk [.int x, tv w])) : dataOf S (.ref n) = some (.list [.int x, .tuple (w.map .int)]) := by
  unfold dataOf toD
  simp only [h]
  rw [show mapO (toD 19 S) [.int x, tv w] = some [.int x, .tuple (w.map .int)] from ?_]
  · rfl
  · have e1 : toD 19 S (.int x) = some (.int x) := rfl
    have e2 : toD 19 S (tv w) = some (.tuple (w.map .int)) := by
      show (mapO (toD 18 S) (w.map .int)).map PySem.PyData.tuple = _
      rw [toD_ints]; rfl
    simp only [mapO, e1, e2]
theorem eqv_tups : ∀ l l' : List (List Int), PySem.PyData.eqvAll (dws l) (dws l') = decide (l = l')
  | [], [] => rfl
  | [], y :: l' => by simp [dws, PySem.PyData.eqvAll]
  | x :: l, [] => by simp [dws, PySem.PyData.eqvAll]
  | x :: l, y :: l' => by
    have ih := eqv_tups l l'
    unfold dws at ih ⊢
    simp only [List.map_cons, PySem.PyData.eqvAll, PySem.PyData.eqv, eqv_ints, ih, List.cons.injEq]
    by_cases h : x = y <;> by_cases h2 : l = l' <;> simp [h, h2]
theorem eqV_ll {S : Store} {m n : Nat} {k k' : Bool} {l l' : List (List Int)} (h : S[m]? = some (.lst k (lv l))) (h' : S[n]? = some (.lst k' (lv l'))) : eqV (.ref m) (.ref n) S = some (decide (l = l')) := by
  rw [eqV_data (dat_lv h) (dat_lv h') (sh_tups l) (sh_tups l')]
  simp only [PySem.PyData.eqv, eqv_tups]
theorem eqV_bl {S : Store} {a b : Bool} : eqV (.bl a) (.bl b) S = some (a == b) := by
  rw [eqV_data (d := .bool a) (e := .bool b) rfl rfl (sh_bool a) (sh_bool b)]
  simp only [PySem.PyData.eqv]
theorem ne_bl {S : Store} {a b : Bool} : cmpV .ne (.bl a) (.bl b) S = some (!(a == b)) := by
  show (eqV (.bl a) (.bl b) S).map (!·) = _
  rw [eqV_bl]; rfl
theorem ne_tv {S : Store} {u w : List Int} : cmpV .ne (tv u) (tv w) S = some (!decide (u = w)) := by
  show (eqV (.tup (u.map .int)) (.tup (w.map .int)) S).map (!·) = _
  rw [eqV_tup]; rfl
theorem ne_int {S : Store} {u w : Int} : cmpV .ne (.int u) (.int w) S = some (!decide (u = w)) := by
  show (eqV (.int u) (.int w) S).map (!·) = _
  rw [eqV_int]; rfl
theorem eq_int {S : Store} {u w : Int} : cmpV .eq (.int u) (.int w) S = some (decide (u = w)) := eqV_int (S := S)
theorem ne_ll {S : Store} {m n : Nat} {k k' : Bool} {l l' : List (List Int)} (h : S[m]? = some (.lst k (lv l))) (h' : S[n]? = some (.lst k' (lv l'))) : cmpV .ne (.ref m) (.ref n) S = some (!decide (l = l')) := by
  show (eqV (.ref m) (.ref n) S).map (!·) = _
  rw [eqV_ll h h']; rfl
theorem mapO_tupV : ∀ ws : List (List Int), mapO tupV (lv ws) = some ws
  | [] => rfl
  | w :: ws => by
    have ih := mapO_tupV ws
    unfold lv at ih ⊢
    have : tupV (tv w) = some w := ints_sum w
    simp only [List.map_cons, mapO, this, ih]
theorem sort_lv {S : Store} {r : Nat} {k : Bool} {ws : List (List Int)} (h : S[r]? = some (.lst k (lv ws))) (hc : (ws.all (fun l => !l.isEmpty) || decide (ws.length < 2)) = true) (hl : ws.length ≤ 100000) :
    biV .sorted [.ref r] S = some (.ref S.length, S ++ [.lst false (lv (sortL ws))]) := by
  show sortB [.ref r] S = _
  simp only [sortB, h, mapO_tupV]
  rw [if_pos hc]
  exact newL_ok (by rw [List.length_map, (sortL_perm ws).length_eq]; omega)
theorem ev_cmp2t {cf : CF} {a b c : X} {ρ : Rf.Env} {S S1 S2 S3 : Store} {x y z : Val} {op op' : Cop} {q : Bool} (h1 : ev cf a ρ S = some (x, S1)) (h2 : ev cf b ρ S1 = some (y, S2)) (h : cmpV op x y S2 = some true) (h3 : ev cf c ρ S2 = some (z, S3)) (h4 : cmpV op' y z S3 = some q) :
    ev cf (.cmp2 op op' a b c) ρ S = some (.bl q, S3) := by
  show bnd (ev cf a ρ S) _ = _
  rw [h1, bnd_some, h2, bnd_some, h]
  show bnd (ev cf c ρ S2) _ = _
  rw [h3, bnd_some, h4]
theorem ev_ifet {cf : CF} {c a b : X} {ρ : Rf.Env} {S S1 : Store} {r : R Val} (h1 : ev cf c ρ S = some (.bl true, S1)) (h2 : ev cf a ρ S1 = r) : ev cf (.ife c a b) ρ S = r := by
  show bnd (ev cf c ρ S) _ = _
  rw [h1]; exact h2
theorem ev_ifef {cf : CF} {c a b : X} {ρ : Rf.Env} {S S1 : Store} {r : R Val} (h1 : ev cf c ρ S = some (.bl false, S1)) (h2 : ev cf b ρ S1 = r) : ev cf (.ife c a b) ρ S = r := by
  show bnd (ev cf c ρ S) _ = _
  rw [h1]; exact h2
theorem evI_rng2 {cf : CF} {as : Xs} {ρ : Rf.Env} {S S1 : Store} {i j : Int} (h : evs cf as ρ S = some ([.int i, .int j], S1)) (h1 : rngOk i = true) (h2 : rngOk j = true) : evI cf (.rng as) ρ S = some (.rng i 1 (j - i).toNat, S1) := by
  show bnd (evs cf as ρ S) _ = _
  rw [h, bnd_some]
  show (match (if (rngOk i && rngOk j) = true then some (Itv.rng i 1 (j - i).toNat) else none) with | some J => some (J, S1) | none => none) = _
  rw [h1, h2]
  rfl
/-- [.. for x in range(1, m) if ..] != [] where no test holds -/
theorem lc_none {cf : CF} {elt cnd mx : X} {tg : T} {own : List Nat} {ρ : Rf.Env} {m : Nat} {S : Store} (hm : m ≤ 100000) (hx : ev cf mx ρ S = some (.int (m : Int), S))
    (ht : ∀ i : Nat, i + 1 < m → ∀ S', Le S S' → Has (dTurn own (asg cf tg) (ev cf cnd) (ev cf elt) ρ (.int (1 + (i : Int))) S') S' none) :
    Has (ev cf (.cmp .ne (.lc elt tg (.rng (.cons (.k (.int 1)) (.cons mx .nil))) cnd own) (.lst .nil)) ρ S) S (.bl false) := by
  obtain ⟨S2, e, l⟩ := lc_map (f := dTurn own (asg cf tg) (ev cf cnd) (ev cf elt) ρ) (J := .rng 1 1 (m - 1)) (ws := List.range (m - 1)) (t := fun i : Nat => Val.int (1 + (i : Int))) (S := S) (fun _ => none) its_rng (by rw [List.length_range]; omega)
    (fun i hi S' l => ht i (by have := List.mem_range.mp hi; omega) S' l)
  have e0 : (List.range (m - 1)).filterMap (fun _ => (none : Option Val)) = [] := by simp
  rw [e0] at e
  have ej : ((m : Int) - 1).toNat = m - 1 := by omega
  refine ⟨(S2 ++ [.lst false []]) ++ [.lst false []], ev_cmp (ev_lc (evI_rng2 (evs_cons rfl (evs_cons hx evs_nil)) (by decide) (rng_small (by omega))) (n := m - 1) ej ?_) (ev_lst evs_nil (by decide)) ?_, l.trans ((Le.add _ _).trans (.add _ _))⟩
  · rw [List.length_range] at e
    rw [ej]; exact e
  · have q : eqV (.ref S2.length) (.ref (S2 ++ [Rf.Obj.lst false []]).length) ((S2 ++ [Rf.Obj.lst false []]) ++ [Rf.Obj.lst false []]) = some (decide (([] : List Int) = [])) :=
      eqV_lst (l := []) (l' := []) (k := false) (k' := false) ((Le.add _ _).get get_last) get_last
    show (eqV (.ref S2.length) (.ref (S2 ++ [Rf.Obj.lst false []]).length) ((S2 ++ [Rf.Obj.lst false []]) ++ [Rf.Obj.lst false []])).map (!·) = _
    rw [q]; rfl
/-- a number drawn, of one or more -/
theorem c_pick1 {tbl : List FD} {f : Nat} (hTab : tbl[f]? = some DPick) {d m : Nat} {S : Store} (h : SrcOk S) (h1 : 1 ≤ m) (hm : m < 1073741824) : ∃ (k : Nat) (S' : Store), k < m ∧ C tbl (d + 1) f [.ref 3, .int (m : Int)] S = some (.int (k : Int), S') ∧ Fr S S' := by
  by_cases h2 : m = 1
  · subst h2
    exact ⟨0, S, by omega, (callF_at hTab rfl).trans (run_ret (exs_ret (ex_if rfl (exs_ret (ex_ret rfl))))), .le h (.refl _)⟩
  · obtain ⟨r, S', e, r0, r1, fr⟩ := c_pick hTab (d := d) (most := (m : Int)) h (by omega) (by omega)
    obtain ⟨k, rfl⟩ : ∃ k : Nat, r = k := ⟨r.toNat, by omega⟩
    exact ⟨k, S', by omega, e, fr⟩
/-- words stand at r -/
theorem rows_ne {S : Store} {r : Nat} {k : Bool} {ws : List (List Int)} (h : S[r]? = some (.lst k (lv ws))) (hw : ws ≠ []) (hs : SrcOk S) : r ≠ 2 ∧ r ≠ 3 := by
  obtain ⟨cs, l, m, t, h3, h2, _⟩ := hs
  refine ⟨fun q => ?_, fun q => ?_⟩
  · rw [q, h2] at h
    obtain ⟨w, ws, e⟩ := List.exists_cons_of_ne_nil hw
    rw [e] at h
    have h' : cs.map Val.int = tv w :: lv ws := by injection h with h; injection h
    cases cs with
    | nil => cases h'
    | cons c cs => cases h'
  · rw [q, h3] at h
    cases h
theorem rows_fr {S S' : Store} {r : Nat} {k : Bool} {ws : List (List Int)} (h : S[r]? = some (.lst k (lv ws))) (hw : ws ≠ []) (hs : SrcOk S) (f : Fr S S') : S'[r]? = some (.lst k (lv ws)) := f.keep r _ (rows_ne h hw hs).1 (rows_ne h hw hs).2 h
end Cm

/-! RfShow: repr's text of plain data: how long at most, sound. -/
namespace Cm
open PySem Rf PyProof.Rows
def szI (i : Int) : Nat := i.natAbs.log2 + 2
mutual
def szD : PyData → Nat
  | .int i => szI i
  | .list xs => szAll xs + 2
  | .tuple xs => szAll xs + 3
  | .dict _ => 0
  | .str _ => 0
  | .none => 5
  | .bool _ => 5
def szAll : List PyData → Nat
  | [] => 0
  | x :: xs => szD x + 2 + szAll xs
end
mutual
def goodD : PyData → Bool
  | .int i => decide (i.natAbs.log2 < 1920)
  | .list xs => goodAll xs
  | .tuple xs => goodAll xs
  | .dict _ => false
  | .str _ => false
  | .none => true
  | .bool _ => true
def goodAll : List PyData → Bool
  | [] => true
  | x :: xs => goodD x && goodAll xs
end
def okQ (d : PyData) : Bool := goodD d && decide (d.depth ≤ 30) && decide (szD d ≤ 1000000)
theorem strOk_app (a b : Str) : PyData.strOk (a ++ b) = (PyData.strOk a && PyData.strOk b) := by
  show (a.cps ++ b.cps).all (fun x => decide (x < 1114112)) = (a.cps.all (fun x => decide (x < 1114112)) && b.cps.all (fun x => decide (x < 1114112)))
  rw [Array.all_append]
theorem char_lt (c : Char) : c.toNat < 1114112 := by
  have h := c.valid
  have e : c.toNat = c.val.toNat := rfl
  rcases h with h | h
  · rw [e]; exact Nat.lt_trans h (by decide)
  · rw [e]; exact h.2
theorem strOk_of (s : String) : PyData.strOk (Str.ofString s) = true := by
  show (Str.ofString s).cps.all (fun x => decide (x < 1114112)) = true
  rw [← Array.all_toList, signs_ofString, List.all_eq_true]
  intro x hx
  obtain ⟨c, _, rfl⟩ := List.mem_map.mp hx
  exact decide_eq_true (char_lt c)
theorem len_nat {v : Int} (h : 0 ≤ v) : (Str.ofString (toString v)).length ≤ v.natAbs.log2 + 1 := by
  refine toString_length_le h (by omega) ?_
  have h1 : v.natAbs < 2 ^ (v.natAbs.log2 + 1) := Nat.lt_log2_self
  have h2 : 2 ^ (v.natAbs.log2 + 1) ≤ 10 ^ (v.natAbs.log2 + 1) := Nat.pow_le_pow_left (by decide) _
  have h3 : v = (v.natAbs : Int) := by omega
  rw [h3]
  have h4 : v.natAbs < 10 ^ (v.natAbs.log2 + 1) := Nat.lt_of_lt_of_le h1 h2
  have h5 : ((v.natAbs : Nat) : Int) < ((10 ^ (v.natAbs.log2 + 1) : Nat) : Int) := Int.ofNat_lt.mpr h4
  rw [Int.natCast_pow] at h5
  simpa using h5
theorem len_int (v : Int) : (Str.ofString (toString v)).length ≤ szI v := by
  unfold szI
  by_cases h : 0 ≤ v
  · exact Nat.le_succ_of_le (len_nat h)
  · have h1 := len_text_negI (n := v) (by omega)
    have h2 := len_nat (v := 0 - v) (by omega)
    have h3 : (0 - v).natAbs = v.natAbs := by omega
    rw [h3] at h2
    omega
def sumL : List Str → Nat
  | [] => 0
  | t :: ts => t.length + 2 + sumL ts
theorem from_ok : ∀ (ts : List Str) (k : Nat) (acc : Str), (∀ t ∈ ts, PyData.strOk t = true) → PyData.strOk acc = true → (textFrom k acc ts).length ≤ acc.length + sumL ts ∧ PyData.strOk (textFrom k acc ts) = true
  | [], k, acc, _, h => ⟨Nat.le_refl _, h⟩
  | t :: ts, k, acc, ht, h => by
    have hs : PyData.strOk (acc ++ Str.ofString (if k > 0 then ", " else "") ++ t) = true := by
      rw [strOk_app, strOk_app, h, strOk_of, ht t (List.mem_cons_self)]; rfl
    obtain ⟨h1, h2⟩ := from_ok ts (k + 1) _ (fun u hu => ht u (List.mem_cons_of_mem _ hu)) hs
    refine ⟨Nat.le_trans h1 ?_, h2⟩
    have e : (Str.ofString (if k > 0 then ", " else "")).length ≤ 2 := by split <;> decide
    rw [strLen_append, strLen_append]
    show _ ≤ acc.length + (t.length + 2 + sumL ts)
    omega
theorem join_ok : ∀ (ts : List Str), (∀ t ∈ ts, PyData.strOk t = true) → (Str.join (Str.ofString ", ") ts).length ≤ sumL ts ∧ PyData.strOk (Str.join (Str.ofString ", ") ts) = true
  | [], _ => ⟨by decide, by decide +kernel⟩
  | [t], h => ⟨by show t.length ≤ t.length + 2 + 0; omega, h t (List.mem_cons_self)⟩
  | t :: u :: ts, h => by
    obtain ⟨h1, h2⟩ := join_ok (u :: ts) fun x hx => h x (List.mem_cons_of_mem _ hx)
    have e : (Str.ofString ", ").length = 2 := by decide
    refine ⟨?_, ?_⟩
    · show (t ++ Str.ofString ", " ++ Str.join (Str.ofString ", ") (u :: ts)).length ≤ t.length + 2 + sumL (u :: ts)
      rw [strLen_append, strLen_append, e]; omega
    · show PyData.strOk (t ++ Str.ofString ", " ++ Str.join (Str.ofString ", ") (u :: ts)) = true
      rw [strOk_app, strOk_app, h t (List.mem_cons_self), strOk_of, h2]; rfl
mutual
theorem shown_ok : ∀ d : PyData, goodD d = true → d.shown.length ≤ szD d ∧ PyData.strOk d.shown = true ∧ d.showable = true ∧ d.hasDict = false
  | .none, _ => by
    refine ⟨?_, ?_, ?_, ?_⟩
    · simp only [PyData.shown, szD]; decide
    · simp only [PyData.shown]; exact strOk_of _
    · simp only [PyData.showable]
    · simp only [PyData.hasDict]
  | .bool b, _ => by
    refine ⟨?_, ?_, ?_, ?_⟩
    · simp only [PyData.shown, szD]; cases b <;> decide
    · simp only [PyData.shown]; cases b <;> exact strOk_of _
    · simp only [PyData.showable]
    · simp only [PyData.hasDict]
  | .int i, h => by
    refine ⟨?_, ?_, ?_, ?_⟩
    · simp only [PyData.shown, szD]; exact len_int i
    · simp only [PyData.shown]; exact strOk_of _
    · simp only [PyData.showable]; simpa only [goodD] using h
    · simp only [PyData.hasDict]
  | .str _, h => by simp [goodD] at h
  | .dict _, h => by simp [goodD] at h
  | .list xs, h => by
    simp only [goodD] at h
    obtain ⟨h1, h2, h3, h4⟩ := shown_all xs h
    obtain ⟨q1, q2⟩ := from_ok (PyData.shownAll xs) 0 (Str.ofString "[") h2 (strOk_of _)
    have e1 : (Str.ofString "[").length = 1 := by decide
    have e2 : (Str.ofString "]").length = 1 := by decide
    refine ⟨?_, ?_, ?_, ?_⟩
    · simp only [PyData.shown, szD]
      show (textFrom 0 (Str.ofString "[") (PyData.shownAll xs) ++ Str.ofString "]").length ≤ _
      rw [strLen_append]; omega
    · simp only [PyData.shown]
      show PyData.strOk (textFrom 0 (Str.ofString "[") (PyData.shownAll xs) ++ Str.ofString "]") = true
      rw [strOk_app, q2, strOk_of]; rfl
    · simp only [PyData.showable]; exact h3
    · simp only [PyData.hasDict]; exact h4
  | .tuple xs, h => by
    simp only [goodD] at h
    obtain ⟨h1, h2, h3, h4⟩ := shown_all xs h
    obtain ⟨q1, q2⟩ := join_ok (PyData.shownAll xs) h2
    have e1 : (Str.ofString "(").length = 1 := by decide
    have e2 : ∀ c : Prop, [Decidable c] → (Str.ofString (if c then ",)" else ")")).length ≤ 2 := by intro c _; split <;> decide
    refine ⟨?_, ?_, ?_, ?_⟩
    · simp only [PyData.shown, szD]
      show (Str.ofString "(" ++ Str.join (Str.ofString ", ") (PyData.shownAll xs) ++ Str.ofString (if ((PyData.shownAll xs).length == 1) = true then ",)" else ")")).length ≤ _
      have := e2 (((PyData.shownAll xs).length == 1) = true)
      rw [strLen_append, strLen_append]; omega
    · simp only [PyData.shown]
      show PyData.strOk (Str.ofString "(" ++ Str.join (Str.ofString ", ") (PyData.shownAll xs) ++ Str.ofString (if ((PyData.shownAll xs).length == 1) = true then ",)" else ")")) = true
      rw [strOk_app, strOk_app, q2, strOk_of, strOk_of]; rfl
    · simp only [PyData.showable]; exact h3
    · simp only [PyData.hasDict]; exact h4
theorem shown_all : ∀ ds : List PyData, goodAll ds = true → sumL (PyData.shownAll ds) ≤ szAll ds ∧ (∀ t ∈ PyData.shownAll ds, PyData.strOk t = true) ∧ PyData.showableAll ds = true ∧ PyData.hasDictAll ds = false
  | [], _ => by
    refine ⟨Nat.le_refl _, fun t ht => ?_, ?_, ?_⟩
    · simp [PyData.shownAll] at ht
    · simp only [PyData.showableAll]
    · simp only [PyData.hasDictAll]
  | d :: ds, h => by
    simp only [goodAll, Bool.and_eq_true] at h
    obtain ⟨a1, a2, a3, a4⟩ := shown_ok d h.1
    obtain ⟨b1, b2, b3, b4⟩ := shown_all ds h.2
    refine ⟨?_, fun t ht => ?_, ?_, ?_⟩
    · simp only [PyData.shownAll, sumL, szAll]; omega
    · simp only [PyData.shownAll, List.mem_cons] at ht
      rcases ht with rfl | ht
      · exact a2
      · exact b2 t ht
    · simp only [PyData.showableAll, a3, b3, Bool.and_self]
    · simp only [PyData.hasDictAll, a4, b4, Bool.or_self]
end
theorem okD_of {d : PyData} (h : okQ d = true) : okD d = true := by
  unfold okQ at h
  simp only [Bool.and_eq_true, decide_eq_true_eq] at h
  obtain ⟨⟨h1, h2⟩, h3⟩ := h
  obtain ⟨a1, a2, a3, a4⟩ := shown_ok d h1
  unfold okD reprOk
  rw [a3, a4, decide_eq_true h2, decide_eq_true (le_size (Nat.le_trans a1 h3))]
  show (true && (PyData.canLay0 (.str d.shown) && decide (PyData.depth (.str d.shown) ≤ 64))) = true
  simp only [PyData.canLay0, PyData.depth, a2]
  rfl
end Cm

/-! CmP: plain words: drawn ones. -/
namespace Cm
open Rf
theorem F_pos : ∀ n, 0 < F (n + 1)
  | 0 => by decide
  | 1 => by decide
  | n + 2 => by
    have h1 := F_pos n
    have h2 : 0 < F (n + 2) := F_pos (n + 1)
    show 0 < F (n + 1) + F (n + 2)
    omega
def pw (n : Nat) (w : List Int) : Prop := w.length = n ∧ (∀ x ∈ w, x = 0 ∨ x = 1) ∧ ∀ (i : Nat) (x y : Int), w[i]? = some x → w[i + 1]? = some y → x + y < 2
theorem pw_tail {n : Nat} {x : Int} {w : List Int} (h : pw (n + 1) (x :: w)) : pw n w :=
  ⟨by simpa using h.1, fun y hy => h.2.1 y (List.mem_cons_of_mem _ hy), fun i a b ha hb => h.2.2 (i + 1) a b ha hb⟩
theorem pw_cons {n : Nat} {w : List Int} (h : pw n w) : pw (n + 1) (0 :: w) := by
  refine ⟨by simp [h.1], fun x hx => ?_, fun i x y hx hy => ?_⟩
  · rcases List.mem_cons.mp hx with e | hx
    · exact .inl e
    · exact h.2.1 x hx
  · cases i with
    | zero =>
      cases hx
      have := h.2.1 y (List.mem_of_getElem? (by simpa using hy))
      omega
    | succ i => exact h.2.2 i x y (by simpa using hx) (by simpa using hy)
theorem unl_refl : ∀ w : List Int, unlikeP w w = 0
  | [] => rfl
  | x :: w => by
    have := unl_refl w
    unfold unlikeP at this ⊢
    simp only [List.zip_cons_cons, List.map_cons, List.sum_cons, this]
    rw [Int.sub_self]; rfl
theorem unl_cons (x y : Int) (u w : List Int) : unlikeP (x :: u) (y :: w) = absI (x - y) + unlikeP u w := by
  simp [unlikeP]
theorem absI_sym (i : Int) : absI (-i) = absI i := by unfold absI; split <;> split <;> omega
theorem unl_sym : ∀ u w : List Int, unlikeP u w = unlikeP w u
  | [], [] => rfl
  | [], _ :: _ => rfl
  | _ :: _, [] => rfl
  | x :: u, y :: w => by rw [unl_cons, unl_cons, unl_sym u w, ← absI_sym (x - y), Int.neg_sub]
/-! ### _law_drawn -/
theorem cut_last {α : Type} (w : List α) : cut w (some (-1)) none = w.drop (w.length - 1) := by
  unfold cut
  have e : HT.sIx w.length 0 (some (-1)) = w.length - 1 := by
    show (if (-1 : Int) < 0 then ((-1 : Int) + (w.length : Int)).toNat else min (-1 : Int).toNat w.length) = w.length - 1
    rw [if_pos (by decide)]; omega
  rw [e, HT.sIx_none, List.take_of_length_le (by simp)]
theorem pw_snoc0 {n : Nat} {w : List Int} (h : pw n w) : pw (n + 1) (w ++ [0]) := by
  refine ⟨by simp [h.1], fun x hx => ?_, fun i x y hx hy => ?_⟩
  · rcases List.mem_append.mp hx with hx | hx
    · exact h.2.1 x hx
    · simp at hx; exact .inl hx
  · have hl := h.1
    by_cases hi : i + 1 < w.length
    · rw [List.getElem?_append_left (by omega)] at hx hy
      exact h.2.2 i x y hx hy
    · have hi2 : i + 1 = w.length := by
        have := (List.getElem?_eq_some_iff.mp hy).1
        simp at this; omega
      rw [List.getElem?_append_right (by omega)] at hy
      have hy0 : y = 0 := by rw [hi2, Nat.sub_self] at hy; simpa using hy.symm
      rw [List.getElem?_append_left (by omega)] at hx
      have := h.2.1 x (List.mem_of_getElem? hx)
      omega
theorem pw_snoc1 {n : Nat} {w : List Int} (h : pw n w) (hl1 : w.drop (w.length - 1) ≠ [1]) : pw (n + 1) (w ++ [1]) := by
  refine ⟨by simp [h.1], fun x hx => ?_, fun i x y hx hy => ?_⟩
  · rcases List.mem_append.mp hx with hx | hx
    · exact h.2.1 x hx
    · simp at hx; exact .inr hx
  · have hl := h.1
    by_cases hi : i + 1 < w.length
    · rw [List.getElem?_append_left (by omega)] at hx hy
      exact h.2.2 i x y hx hy
    · have hi2 : i + 1 = w.length := by
        have := (List.getElem?_eq_some_iff.mp hy).1
        simp at this; omega
      rw [List.getElem?_append_right (by omega)] at hy
      have hy0 : y = 1 := by rw [hi2, Nat.sub_self] at hy; simpa using hy.symm
      rw [List.getElem?_append_left (by omega)] at hx
      have hb := h.2.1 x (List.mem_of_getElem? hx)
      have : x ≠ 1 := by
        rintro rfl
        apply hl1
        have e : w.length - 1 = i := by omega
        rw [e, List.drop_eq_getElem_cons (by omega), List.drop_of_length_le (by omega)]
        rw [List.getElem?_eq_getElem (by omega)] at hx
        rw [Option.some.inj hx]
      omega
theorem tup_addw {w u : List Int} {S : Store} (h : w.length < 1000) (hu : u.length < 1000) : binV .add (tv w) (tv u) S = some (tv (w ++ u), S) := by
  show newT (w.map .int ++ u.map .int) S = _
  rw [newT_ok (by simp; omega)]
  simp [tv]
theorem cut_from {α : Type} (xs : List α) {i : Nat} (h : i ≤ xs.length) : cut xs (some (i : Int)) none = xs.drop i := by
  unfold cut
  rw [HT.sIx_nat, HT.sIx_none, Nat.min_eq_left h, List.take_of_length_le (by simp)]
theorem len_tv {w : List Int} {S : Store} : biV .len [tv w] S = some (.int ((w.length : Nat) : Int), S) := by
  show some (Val.int (((w.map Val.int).length : Nat) : Int), S) = _
  rw [List.length_map]
theorem ix_tv {w : List Int} {i : Nat} {x : Int} {S : Store} (h : w[i]? = some x) : ixV (tv w) (.int (i : Int)) S = some (.int x) := by
  show L2.atI (w.map Val.int) (i : Int) = _
  exact at_nat (by rw [List.getElem?_map, h]; rfl)
def dwB (p : Nat) : B := (.cons (.asg (.slot 3) (.bin .add (.slot 3) (.tup (.cons (.bi .int (.cons (.and (.cmp .ne (.sli (.slot 3) (.neg (.k (.int 1))) (.k .non)) (.tup (.cons (.k (.int 1)) .nil))) (.cmp .lt (.call p (.cons (.slot 0) (.cons (.k (.int 5)) .nil))) (.slot 4))) .nil)) .nil))))
    .nil)
theorem int_bl {b : Bool} {S : Store} : biV .int [.bl b] S = some (.int (if b then 1 else 0), S) := rfl
theorem dw_body {tbl : List FD} {p : Nat} (hP : tbl[p]? = some DPick) {d n : Nat} {w : List Int} {sh : Int} {a b : Option Val} {S : Store} (hs : SrcOk S) (hw : pw n w) (hn : n < 90) : ∃ w' S', exs (C tbl (d + 1)) 200 (dwB p) [some (.ref 3), a, b, some (tv w), some (.int sh)] S = some (.nx, [some (.ref 3), a, b, some (tv w'), some (.int sh)], S') ∧ pw (n + 1) w' ∧ Fr S S' := by
  have hl := hw.1
  have t : ev (C tbl (d + 1)) (.cmp .ne (.sli (.slot 3) (.neg (.k (.int 1))) (.k .non)) (.tup (.cons (.k (.int 1)) .nil))) [some (.ref 3), a, b, some (tv w), some (.int sh)] S = some (.bl (!decide (w.drop (w.length - 1) = [1])), S) := by
    refine ev_cmp (x := tv (w.drop (w.length - 1))) (y := tv [1]) ?_ (ev_tup (evs_cons rfl evs_nil) (by decide)) ?_
    · show some (Val.tup (cut (w.map Val.int) (some (-1)) none), S) = _
      rw [cut_last, List.length_map, ← List.map_drop]; rfl
    · show (eqV (.tup ((w.drop (w.length - 1)).map .int)) (.tup (([1] : List Int).map .int)) S).map (!·) = _
      rw [eqV_tup]; rfl
  by_cases h1 : w.drop (w.length - 1) = [1]
  · refine ⟨w ++ [0], S, exs_nx (ex_asg (ev_bin rfl (ev_tup (evs_cons (ev_bi (evs_cons (ev_and0 (t.trans (by rw [decide_eq_true h1]; rfl))) evs_nil) int_bl) evs_nil) (show 1 ≤ 1000000 by decide)) (tup_addw (u := [0]) (by omega) (by decide))) rfl) exs_nil, pw_snoc0 hw, .le hs (.refl _)⟩
  · obtain ⟨q, S', e, q0, q1, fr⟩ := c_pick (tbl := tbl) (f := p) hP (d := d) (most := 5) hs (by decide) (by decide)
    have e2 := ev_bi (cf := C tbl (d + 1)) (f := .int) (evs_cons (ev_and1 (t.trans (by rw [decide_eq_false h1]; rfl)) (ev_cmp (a := .call p (.cons (.slot 0) (.cons (.k (.int 5)) .nil))) (b := .slot 4) (op := .lt) (ev_call (evs_cons rfl (evs_cons rfl evs_nil)) e) rfl (show cmpV .lt (.int q) (.int sh) S' = some (decide (q < sh)) from rfl))) evs_nil) int_bl
    by_cases h2 : q < sh
    · rw [decide_eq_true h2] at e2
      exact ⟨w ++ [1], S', exs_nx (ex_asg (ev_bin rfl (ev_tup (evs_cons e2 evs_nil) (show 1 ≤ 1000000 by decide)) (tup_addw (u := [1]) (by omega) (by decide))) rfl) exs_nil, pw_snoc1 hw h1, fr⟩
    · rw [decide_eq_false h2] at e2
      exact ⟨w ++ [0], S', exs_nx (ex_asg (ev_bin rfl (ev_tup (evs_cons e2 evs_nil) (show 1 ≤ 1000000 by decide)) (tup_addw (u := [0]) (by omega) (by decide))) rfl) exs_nil, pw_snoc0 hw, fr⟩
def DDrawn (p : Nat) : FD := ⟨2, 5, 
  (.cons (.asg (.tup (.cons (.slot 3) (.cons (.slot 4) .nil))) (.tup (.cons (.tup .nil) (.cons (.bin .add (.k (.int 1)) (.call p (.cons (.slot 0) (.cons (.k (.int 4)) .nil)))) .nil))))
  (.cons (.loop (.slot 2) (.rng (.cons (.slot 1) .nil)) (dwB p))
  (.cons (.ret (.slot 3))
  .nil)))⟩
theorem c_drawn {tbl : List FD} {f p : Nat} (hTab : tbl[f]? = some (DDrawn p)) (hP : tbl[p]? = some DPick) {d n : Nat} {S : Store} (hs : SrcOk S) (hn : n < 90) : ∃ w S', C tbl (d + 2) f [.ref 3, .int (n : Int)] S = some (tv w, S') ∧ pw n w ∧ Fr S S' := by
  obtain ⟨q, S1, e1, q0, q1, fr1⟩ := c_pick (tbl := tbl) (f := p) hP (d := d) (most := 4) hs (by decide) (by decide)
  obtain ⟨ρ', S', e, w, z, rfl, hw, fr⟩ := loop_inv (set := asg (C tbl (d + 1)) (.slot 2)) (body := exs (C tbl (d + 1)) 200 (dwB p))
    (J := .rng 0 1 n) (vs := (List.range n).map fun i : Nat => .int (0 + (i : Int))) (ρ := [some (.ref 3), some (.int (n : Int)), none, some (tv []), some (.int (1 + q))]) (S := S1)
    (fun i ρ S' => ∃ w z, ρ = [some (.ref 3), some (.int (n : Int)), z, some (tv w), some (.int (1 + q))] ∧ pw i w ∧ Fr S S') ⟨[], none, rfl, ⟨rfl, fun x hx => (by cases hx), fun i x y hx => by simp at hx⟩, fr1⟩ (fun i ρ S' _ => its_rng S' (.refl _) i) (by
      rintro i v ρ S' ⟨w, z, rfl, hw, fr⟩ hv
      have hi : i < n := by
        have := (List.getElem?_eq_some_iff.mp hv).1
        simpa using this
      obtain ⟨w', S2, e, hw', fr2⟩ := dw_body hP (d := d) (sh := 1 + q) (a := some (.int (n : Int))) (b := some v) fr.src hw (by omega)
      exact ⟨_, _, rfl, _, _, e, w', some v, rfl, hw', fr.trans fr2⟩)
  simp only [List.length_map, List.length_range] at e hw
  refine ⟨w, S', (callF_at hTab rfl).trans (run_ret (exs_nx (ex_asg (ev_tup (evs_cons (ev_tup evs_nil (by decide)) (evs_cons (ev_bin rfl (ev_call (evs_cons rfl (evs_cons rfl evs_nil)) e1) rfl) evs_nil)) (show 2 ≤ 1000000 by decide)) rfl) (exs_nx (ex_loop (evI_rng1 (evs_cons rfl evs_nil) (rng_small (by omega))) rfl e) (exs_ret (ex_ret rfl))))), hw, fr⟩
end Cm

/-! CmM: letters, medians, turns that change the store. -/
namespace Cm
open Rf
/-- the letter at i, 0 outside -/
def at0 (w : List Int) (i : Nat) : Int := w[i]?.getD 0
def bits (w : List Int) : Prop := ∀ i, at0 w i = 0 ∨ at0 w i = 1
def noTwo (w : List Int) : Prop := ∀ i, at0 w i + at0 w (i + 1) < 2
theorem at0_app {u : List Int} {x : Int} {i : Nat} : at0 (u ++ [x]) i = if i < u.length then at0 u i else if i = u.length then x else 0 := by
  unfold at0
  by_cases h : i < u.length
  · rw [if_pos h, List.getElem?_append_left h]
  · rw [if_neg h, List.getElem?_append_right (by omega)]
    by_cases h2 : i = u.length
    · rw [if_pos h2, h2, Nat.sub_self]; rfl
    · rw [if_neg h2, List.getElem?_eq_none (by simp; omega)]; rfl
theorem at0_out {w : List Int} {i : Nat} (h : w.length ≤ i) : at0 w i = 0 := by unfold at0; rw [List.getElem?_eq_none h]; rfl
theorem last0 {u : List Int} : u.getLast?.getD 0 = at0 u (u.length - 1) := by rw [List.getLast?_eq_getElem?]; rfl
theorem mem_words : ∀ {n : Nat} {w : List Int}, w ∈ wordsP n ↔ w.length = n ∧ bits w ∧ noTwo w
  | 0, w => by
    constructor
    · intro h
      have : w = [] := by simpa [wordsP] using h
      subst this
      exact ⟨rfl, fun i => .inl rfl, fun i => by show (0 : Int) + 0 < 2; decide⟩
    · rintro ⟨h, _⟩
      rw [List.eq_nil_of_length_eq_zero h]
      exact List.mem_singleton.mpr rfl
  | n + 1, w => by
    constructor
    · intro h
      simp only [wordsP, stepW, List.mem_flatMap] at h
      obtain ⟨u, hu, h⟩ := h
      obtain ⟨h1, h2, h3⟩ := mem_words.mp hu
      have main : ∀ x : Int, (x = 0 ∨ x = 1 ∧ (u = [] ∨ u.getLast? = some 0)) → (u ++ [x]).length = n + 1 ∧ bits (u ++ [x]) ∧ noTwo (u ++ [x]) := by
        intro x hx
        refine ⟨by simp [h1], fun i => ?_, fun i => ?_⟩
        · rw [at0_app]
          have := h2 i
          by_cases hi : i < u.length
          · rw [if_pos hi]; exact this
          · rw [if_neg hi]
            by_cases hi2 : i = u.length
            · rw [if_pos hi2]; rcases hx with q | q
              · exact .inl q
              · exact .inr q.1
            · rw [if_neg hi2]; exact .inl rfl
        · rw [at0_app, at0_app]
          have t := h3 i
          have b := h2 i
          by_cases hi : i + 1 < u.length
          · rw [if_pos (by omega), if_pos hi]; exact t
          · by_cases hi2 : i + 1 = u.length
            · rw [if_pos (by omega), if_neg hi, if_pos hi2]
              rcases hx with q | ⟨q, q2⟩
              · rw [q]; omega
              · rcases q2 with q2 | q2
                · rw [q2] at hi2; simp at hi2
                · have e : at0 u i = 0 := by
                    have := last0 (u := u)
                    rw [q2, show u.length - 1 = i by omega] at this
                    exact this.symm
                  omega
            · by_cases hi3 : i = u.length
              · rw [if_neg (by omega), if_pos hi3, if_neg (by omega), if_neg (by omega)]
                rcases hx with q | q
                · omega
                · omega
              · rw [if_neg (by omega), if_neg hi3, if_neg (by omega), if_neg (by omega)]; decide
      unfold ext1 at h
      rcases List.mem_cons.mp h with rfl | h
      · exact main 0 (.inl rfl)
      · split at h
        · rename_i hc
          rw [List.mem_singleton.mp h]
          exact main 1 (.inr ⟨rfl, hc⟩)
        · cases h
    · rintro ⟨h1, h2, h3⟩
      obtain ⟨u, x, rfl⟩ : ∃ u x, w = u ++ [x] := by
        have hne : w ≠ [] := fun q => by rw [q] at h1; cases h1
        exact ⟨w.dropLast, w.getLast hne, (List.dropLast_concat_getLast hne).symm⟩
      have hl : u.length = n := by simpa using h1
      have hu : u ∈ wordsP n := by
        refine mem_words.mpr ⟨hl, fun i => ?_, fun i => ?_⟩
        · have := h2 i
          rw [at0_app] at this
          by_cases hi : i < u.length
          · rw [if_pos hi] at this; exact this
          · exact .inl (at0_out (by omega))
        · have := h3 i
          rw [at0_app, at0_app] at this
          by_cases hi : i + 1 < u.length
          · rw [if_pos (by omega), if_pos hi] at this; exact this
          · rw [at0_out (i := i + 1) (by omega)]
            have b := h2 i
            rw [at0_app] at b
            by_cases hi2 : i < u.length
            · rw [if_pos hi2] at b; omega
            · rw [at0_out (by omega)]; decide
      simp only [wordsP, stepW, List.mem_flatMap]
      refine ⟨u, hu, ?_⟩
      have hx := h2 u.length
      rw [at0_app, if_neg (Nat.lt_irrefl _), if_pos rfl] at hx
      unfold ext1
      rcases hx with rfl | rfl
      · exact List.mem_cons_self
      · refine List.mem_cons_of_mem _ ?_
        by_cases hn : u = []
        · rw [if_pos (.inl hn)]; exact List.mem_singleton.mpr rfl
        · rw [if_pos]
          · exact List.mem_singleton.mpr rfl
          · right
            have hp : 0 < u.length := List.length_pos_iff.mpr hn
            have := h3 (u.length - 1)
            rw [at0_app, at0_app, if_pos (by omega), if_neg (by omega), if_pos (by omega)] at this
            have b := h2 (u.length - 1)
            rw [at0_app, if_pos (by omega)] at b
            have e : at0 u (u.length - 1) = 0 := by omega
            rw [List.getLast?_eq_getElem?]
            have hg : u[u.length - 1]? = some u[u.length - 1] := List.getElem?_eq_getElem (by omega)
            unfold at0 at e
            rw [hg] at e ⊢
            exact congrArg some e
/-- the letter that two of three have -/
def maj (p : (Int × Int) × Int) : Int := if p.1.1 + p.1.2 + p.2 > 1 then 1 else 0
def med (a b c : List Int) : List Int := ((a.zip b).zip c).map maj
theorem at_med {n : Nat} {a b c : List Int} (ha : a.length = n) (hb : b.length = n) (hc : c.length = n) (i : Nat) : at0 (med a b c) i = if at0 a i + at0 b i + at0 c i > 1 then 1 else 0 := by
  by_cases h : i < n
  · have e1 : a[i]? = some a[i] := List.getElem?_eq_getElem (by omega)
    have e2 : b[i]? = some b[i] := List.getElem?_eq_getElem (by omega)
    have e3 : c[i]? = some c[i] := List.getElem?_eq_getElem (by omega)
    unfold at0 med
    rw [List.getElem?_map, e1, e2, e3]
    have : ((a.zip b).zip c)[i]? = some ((a[i], b[i]), c[i]) := by
      rw [List.getElem?_zip_eq_some]
      exact ⟨List.getElem?_zip_eq_some.mpr ⟨e1, e2⟩, e3⟩
    rw [this]
    rfl
  · rw [at0_out (by simp [med]; omega), at0_out (by omega), at0_out (by omega), at0_out (by omega)]
    rfl
/-- a comprehension whose turns may change the store -/
theorem lc_inv {f : Val → Store → R (Option Val)} {J : Itv} {vs : List Val} {S : Store} (P : Store → Prop) (Q : Val → Prop) (h0 : P S) (hJ : ∀ i S', P S' → itAt J i S' = some vs[i]?) (hl : vs.length ≤ 1000000)
    (hf : ∀ v ∈ vs, ∀ S', P S' → ∃ y S2, f v S' = some (some y, S2) ∧ P S2 ∧ Q y) : ∃ ys S', lcGo f J (vs.length + 1) 0 0 S = some (ys, S') ∧ P S' ∧ ys.length = vs.length ∧ ∀ y ∈ ys, Q y := by
  have main : ∀ k i n S', i + k = vs.length → n ≤ i → P S' → ∃ ys S2, lcGo f J (k + 1) i n S' = some (ys, S2) ∧ P S2 ∧ ys.length = k ∧ ∀ y ∈ ys, Q y := by
    intro k
    induction k with
    | zero =>
      intro i n S' hi hn p
      have q := hJ i S' p
      rw [List.getElem?_eq_none (by omega)] at q
      exact ⟨[], S', by simp only [lcGo, q], p, rfl, fun y hy => by cases hy⟩
    | succ k ih =>
      intro i n S' hi hn p
      have hlt : i < vs.length := by omega
      have q := hJ i S' p
      rw [List.getElem?_eq_getElem hlt] at q
      obtain ⟨y, S2, e, p2, qy⟩ := hf vs[i] (List.getElem_mem hlt) S' p
      obtain ⟨ys, S3, e3, p3, hl3, q3⟩ := ih (i + 1) (n + 1) S2 (by omega) (by omega) p2
      refine ⟨y :: ys, S3, ?_, p3, by simp [hl3], fun z hz => ?_⟩
      · unfold lcGo
        rw [q]
        dsimp only
        rw [e, bnd_some]
        dsimp only
        rw [if_pos (Nat.lt_of_lt_of_le (show n < 1000000 by omega) (le_size (Nat.le_refl _))), e3]
        rfl
      · rcases List.mem_cons.mp hz with h | h
        · rw [h]; exact qy
        · exact q3 z h
  exact main vs.length 0 0 S (by omega) (Nat.le_refl _) h0
theorem zipW3 (a b c : List Int) : List.zipWith (fun (f : Val → Val) z => f z) (List.zipWith (fun x y => fun z => Val.tup [x, y, z]) (a.map .int) (b.map .int)) (c.map .int) = ((a.zip b).zip c).map fun p => Val.tup [.int p.1.1, .int p.1.2, .int p.2] := by
  induction a generalizing b c with
  | nil => rfl
  | cons x a ih =>
    cases b with
    | nil => rfl
    | cons y b =>
      cases c with
      | nil => rfl
      | cons z c =>
        rw [List.map_cons, List.map_cons, List.map_cons, List.zipWith_cons_cons, List.zipWith_cons_cons, List.zip_cons_cons, List.zip_cons_cons, List.map_cons, ih]
end Cm

/-! CmV: values near the right ones, judged: ints, bools, None within tuples. -/
namespace Cm
open PySem Rf PyProof.Rows
inductive Atom : Val → Prop
  | int (i : Int) : Atom (.int i)
  | bl (b : Bool) : Atom (.bl b)
  | non : Atom .non
def atD : Val → PyData
  | .int i => .int i
  | .bl b => .bool b
  | _ => .none
theorem at_toD {k : Nat} {S : Store} {v : Val} (h : Atom v) : toD (k + 1) S v = some (atD v) := by cases h <;> rfl
theorem at_data {k : Nat} {S : Store} : ∀ {xs : List Val}, (∀ x ∈ xs, Atom x) → mapO (toD (k + 1) S) xs = some (xs.map atD) := fun h => mapO_all fun x hx => at_toD (h x hx)
theorem at_lay : ∀ {xs : List Val}, PyData.canLayAll0 (xs.map atD) = true ∧ PyData.depthAll (xs.map atD) = 0
  | [] => ⟨rfl, rfl⟩
  | x :: xs => by
    have ih := at_lay (xs := xs)
    have h : PyData.canLay0 (atD x) = true ∧ PyData.depth (atD x) = 0 := by cases x <;> exact ⟨rfl, rfl⟩
    simp only [List.map_cons, PyData.canLayAll0, PyData.depthAll, ih.1, ih.2, h.1, h.2]
    decide
theorem at_shaped {xs : List Val} : SeqAt.shaped (.list (xs.map atD)) = true := by
  show (PyData.canLay0 (.list (xs.map atD)) && decide (PyData.depth (.list (xs.map atD)) ≤ 64)) = true
  simp only [PyData.canLay0, PyData.depth, at_lay.1, at_lay.2]
  decide
theorem at_lst {S : Store} {n : Nat} {lk : Bool} {xs : List Val} (h : S[n]? = some (.lst lk xs)) (ha : ∀ x ∈ xs, Atom x) : Rf.dataOf S (.ref n) = some (.list (xs.map atD)) := by
  unfold Rf.dataOf toD
  simp only [h]
  rw [at_data (k := 18) ha]; rfl
theorem eqnilA {cf : CF} {a : X} {ρ : Rf.Env} {S S1 : Store} {m : Nat} {k : Bool} {xs : List Val} (h : ev cf a ρ S = some (.ref m, S1)) (g : S1[m]? = some (.lst k xs)) (ha : ∀ x ∈ xs, Atom x) : ev cf (.cmp .eq a (.lst .nil)) ρ S = some (.bl xs.isEmpty, S1 ++ [.lst false []]) := by
  refine ev_cmp h (ev_lst evs_nil (show 0 ≤ 1000000 by decide)) ?_
  have d1 : Rf.dataOf (S1 ++ [Rf.Obj.lst false []]) (.ref m) = some (.list (xs.map atD)) := at_lst ((Le.add S1 _).get g) ha
  have d2 : Rf.dataOf (S1 ++ [Rf.Obj.lst false []]) (.ref S1.length) = some (.list []) := data_lst (l := []) (lk := false) get_last
  show eqV (.ref m) (.ref S1.length) (S1 ++ [Rf.Obj.lst false []]) = _
  rw [eqV_data d1 d2 at_shaped (sh_lst [])]
  cases xs <;> rfl
theorem all_lst {n : Nat} {k : Bool} {bs : List Bool} {S : Store} (h : S[n]? = some (.lst k (bs.map .bl))) : biV .all [.ref n] S = some (.bl (bs.all id), S) := by
  have e : ∀ l : List Bool, blsV (l.map .bl) = some l := by
    intro l
    induction l with
    | nil => rfl
    | cons b l ih => simp only [List.map_cons, blsV, ih]
  simp only [biV, h, e, Option.map_some]
def isI : Val → Bool
  | .non => false
  | _ => true
def isB : Val → Bool
  | .bl _ => true
  | _ => false
/-- an int that is no bool -/
def plI : Val → Bool
  | .int _ => true
  | _ => false
theorem isi_i {v : Val} {S : Store} (h : Atom v) : biV .isi [v, .ty "int"] S = some (.bl (isI v), S) := by cases h <;> rfl
theorem isi_b {v : Val} {S : Store} (h : Atom v) : biV .isi [v, .ty "bool"] S = some (.bl (isB v), S) := by cases h <;> rfl
theorem tup_lst {n : Nat} {k : Bool} {xs : List Val} {S : Store} (h : S[n]? = some (.lst k xs)) : biV .tuple [.ref n] S = some (.tup xs, S) := by simp only [biV, h]
theorem isi_t {xs : List Val} {S : Store} : biV .isi [.tup xs, .ty "tuple"] S = some (.bl true, S) := rfl
/-- not isinstance(x, int) or isinstance(x, bool) -/
theorem ev_bad {cf : CF} {a : X} {v : Val} {ρ : Rf.Env} {S : Store} (hv : ev cf a ρ S = some (v, S)) (h : Atom v) : ev cf (.or (.not (.bi .isi (.cons a (.cons (.k (.ty "int")) .nil)))) (.bi .isi (.cons a (.cons (.k (.ty "bool")) .nil)))) ρ S = some (.bl (!plI v), S) := by
  have t1 : ev cf (.not (.bi .isi (.cons a (.cons (.k (.ty "int")) .nil)))) ρ S = some (.bl (!isI v), S) := ev_not (ev_bi (evs_cons hv (evs_cons rfl evs_nil)) (isi_i h))
  have t2 : ev cf (.bi .isi (.cons a (.cons (.k (.ty "bool")) .nil))) ρ S = some (.bl (isB v), S) := ev_bi (evs_cons hv (evs_cons rfl evs_nil)) (isi_b h)
  cases h with
  | int i => exact ev_or0 t1 t2
  | bl b => exact ev_or0 t1 t2
  | non => exact ev_or1 t1
/-- isinstance(x, int) and not isinstance(x, bool) -/
theorem ev_good {cf : CF} {a : X} {v : Val} {ρ : Rf.Env} {S : Store} (hv : ev cf a ρ S = some (v, S)) (h : Atom v) : ev cf (.and (.bi .isi (.cons a (.cons (.k (.ty "int")) .nil))) (.not (.bi .isi (.cons a (.cons (.k (.ty "bool")) .nil))))) ρ S = some (.bl (plI v), S) := by
  have t1 : ev cf (.bi .isi (.cons a (.cons (.k (.ty "int")) .nil))) ρ S = some (.bl (isI v), S) := ev_bi (evs_cons hv (evs_cons rfl evs_nil)) (isi_i h)
  have t2 : ev cf (.not (.bi .isi (.cons a (.cons (.k (.ty "bool")) .nil)))) ρ S = some (.bl (!isB v), S) := ev_not (ev_bi (evs_cons hv (evs_cons rfl evs_nil)) (isi_b h))
  cases h with
  | int i => exact ev_and1 t1 t2
  | bl b => exact ev_and1 t1 t2
  | non => exact ev_and0 t1
theorem ints_of : ∀ {xs : List Val}, (∀ x ∈ xs, Atom x) → (xs.filter fun v => !plI v).isEmpty = true → ∃ w : List Int, xs = w.map .int
  | [], _, _ => ⟨[], rfl⟩
  | x :: xs, h, h2 => by
    have hx := h x (List.mem_cons_self)
    rw [List.isEmpty_iff, List.filter_eq_nil_iff] at h2
    obtain ⟨w, rfl⟩ := ints_of (xs := xs) (fun y hy => h y (List.mem_cons_of_mem _ hy)) (by
      rw [List.isEmpty_iff, List.filter_eq_nil_iff]
      exact fun y hy => h2 y (List.mem_cons_of_mem _ hy))
    have := h2 x (List.mem_cons_self)
    cases hx with
    | int i => exact ⟨i :: w, rfl⟩
    | bl b => exact absurd rfl this
    | non => exact absurd rfl this
theorem at_ints {w : List Int} : ∀ x ∈ w.map Val.int, Atom x := by
  intro x hx
  obtain ⟨i, _, rfl⟩ := List.mem_map.mp hx
  exact .int i
theorem ev_cmp2i {cf : CF} {a b c : X} {x y z : Int} {ρ : Rf.Env} {S : Store} (h1 : ev cf a ρ S = some (.int x, S)) (h2 : ev cf b ρ S = some (.int y, S)) (h3 : ev cf c ρ S = some (.int z, S)) : ev cf (.cmp2 .le .lt a b c) ρ S = some (.bl (decide (x ≤ y) && decide (y < z)), S) := by
  unfold ev
  rw [h1, bnd_some, h2, bnd_some]
  show (match some (decide (x ≤ y)) with
    | some true => bnd (ev cf c ρ S) fun z S3 => match cmpV .lt (.int y) z S3 with
      | some c => some (Val.bl c, S3)
      | none => none
    | some false => some (.bl false, S)
    | none => none) = _
  by_cases h : x ≤ y
  · rw [decide_eq_true h]
    dsimp only
    rw [h3, bnd_some]; rfl
  · rw [decide_eq_false h]; rfl
theorem ok_bl (b : Bool) : okD (.bool b) = true := by cases b <;> decide +kernel
theorem dat_bl {b : Bool} {S : Store} : Rf.dataOf S (.bl b) = some (.bool b) := rfl
/-- all over a comprehension says just if no one is bad -/
theorem all_flt {α : Type} (p : α → Bool) (l : List α) : (l.map p).all id = (l.filter fun x => !p x).isEmpty := by
  induction l with
  | nil => rfl
  | cons x l ih =>
    rw [List.map_cons, List.all_cons, ih, List.filter_cons]
    cases p x <;> simp
/-! ### repr of small things -/
theorem ints_good : ∀ w : List Int, (∀ x ∈ w, 0 ≤ x ∧ x < 1048576) → goodAll (w.map .int) = true ∧ szAll (w.map .int) ≤ 24 * w.length
  | [], _ => ⟨rfl, Nat.le_refl _⟩
  | x :: w, h => by
    obtain ⟨h1, h2⟩ := ints_good w fun y hy => h y (List.mem_cons_of_mem _ hy)
    have hx := h x (List.mem_cons_self)
    have hl : x.natAbs.log2 < 20 := by
      by_cases h0 : x.natAbs = 0
      · rw [h0]; decide
      · rw [Nat.log2_lt h0]; show _ < 1048576; omega
    simp only [List.map_cons, goodAll, goodD, szAll, szD, h1, List.length_cons, Bool.and_true]
    have : szI x < 22 := by unfold szI; omega
    exact ⟨decide_eq_true (by omega), by omega⟩
theorem dws_good : ∀ ws : List (List Int), (∀ w ∈ ws, w.length ≤ 20 ∧ ∀ x ∈ w, 0 ≤ x ∧ x < 1048576) → goodAll (dws ws) = true ∧ szAll (dws ws) ≤ 24 * (ws.map List.length).sum + 5 * ws.length ∧ PySem.PyData.depthAll (dws ws) ≤ 1
  | [], _ => ⟨rfl, Nat.le_refl _, by simp [dws, PySem.PyData.depthAll]⟩
  | w :: ws, h => by
    obtain ⟨h1, h2, h3⟩ := dws_good ws fun y hy => h y (List.mem_cons_of_mem _ hy)
    obtain ⟨a, b⟩ := h w (List.mem_cons_self)
    obtain ⟨g1, g2⟩ := ints_good w b
    unfold dws at h1 h2 h3 ⊢
    simp only [List.map_cons, goodAll, goodD, szAll, szD, List.length_cons, List.sum_cons, PySem.PyData.depthAll, PySem.PyData.depth, ints_depth]
    rw [g1, h1]
    exact ⟨rfl, by omega, by omega⟩
theorem sum_len : ∀ (ws : List (List Int)) (k : Nat), (∀ w ∈ ws, w.length ≤ k) → (ws.map List.length).sum ≤ k * ws.length
  | [], _, _ => Nat.zero_le _
  | w :: ws, k, h => by
    have ih := sum_len ws k fun y hy => h y (List.mem_cons_of_mem _ hy)
    have hw := h w (List.mem_cons_self)
    rw [List.map_cons, List.sum_cons, List.length_cons, Nat.mul_succ]
    omega
theorem ok_ints {w : List Int} (h : ∀ x ∈ w, 0 ≤ x ∧ x < 1048576) (hl : w.length ≤ 1000) : okD (.tuple (w.map .int)) = true ∧ okD (.list (w.map .int)) = true := by
  obtain ⟨g1, g2⟩ := ints_good w h
  constructor
  · apply okD_of
    have hz : szD (.tuple (w.map .int)) ≤ 1000000 := by simp only [szD]; omega
    have hg : goodD (.tuple (w.map .int)) = true := by simp only [goodD, g1]
    have hd : PySem.PyData.depth (.tuple (w.map .int)) = 1 := by simp only [PySem.PyData.depth, ints_depth]
    unfold okQ
    rw [hg, hd, decide_eq_true hz]; rfl
  · apply okD_of
    have hz : szD (.list (w.map .int)) ≤ 1000000 := by simp only [szD]; omega
    have hg : goodD (.list (w.map .int)) = true := by simp only [goodD, g1]
    have hd : PySem.PyData.depth (.list (w.map .int)) = 1 := by simp only [PySem.PyData.depth, ints_depth]
    unfold okQ
    rw [hg, hd, decide_eq_true hz]; rfl
/-- words and a web -/
theorem ok_wweb {ws ts : List (List Int)} {n : Nat} (hw : ∀ w ∈ ws, w.length ≤ 20 ∧ ∀ x ∈ w, 0 ≤ x ∧ x < 1048576) (ht : ∀ w ∈ ts, w.length ≤ 2 ∧ ∀ x ∈ w, 0 ≤ x ∧ x < 1048576) (h1 : ws.length ≤ 1000) (h2 : ts.length ≤ 5000) (hn : n < 1048576) :
    okD (.list [.tuple (dws ws), .tuple [.int (n : Int), .tuple (dws ts)]]) = true := by
  obtain ⟨a1, a2, a3⟩ := dws_good ws hw
  obtain ⟨b1, b2, b3⟩ := dws_good ts fun w h => ⟨by have := (ht w h).1; omega, (ht w h).2⟩
  have s1 := sum_len ws 20 fun w h => (hw w h).1
  have s2 := sum_len ts 2 fun w h => (ht w h).1
  obtain ⟨c1, c2⟩ := ints_good [(n : Int)] (by intro x hx; rw [List.mem_singleton.mp hx]; omega)
  simp only [List.map_cons, List.map_nil, goodAll, szAll, List.length_singleton, Bool.and_true] at c1 c2
  have hz : szD (.list [.tuple (dws ws), .tuple [.int (n : Int), .tuple (dws ts)]]) ≤ 1000000 := by simp only [szD, szAll] at c2 ⊢; omega
  have hg : goodD (.list [.tuple (dws ws), .tuple [.int (n : Int), .tuple (dws ts)]]) = true := by
    simp only [goodD, goodAll, a1, b1] at c1 ⊢
    rw [c1]; rfl
  have hd : PySem.PyData.depth (.list [.tuple (dws ws), .tuple [.int (n : Int), .tuple (dws ts)]]) ≤ 30 := by
    simp only [PySem.PyData.depth, PySem.PyData.depthAll]; omega
  apply okD_of
  unfold okQ
  rw [hg, decide_eq_true hd, decide_eq_true hz]; rfl
theorem toD_int {k : Nat} {S : Store} {i : Int} : toD (k + 1) S (.int i) = some (.int i) := rfl
theorem toD_tlv {k : Nat} {S : Store} {ws : List (List Int)} : toD (k + 3) S (.tup (lv ws)) = some (.tuple (dws ws)) := by
  show (mapO (toD (k + 2) S) (lv ws)).map PySem.PyData.tuple = _
  rw [mapO_all (g := fun v => match v with | .tup xs => .tuple (xs.map fun v => match v with | .int i => .int i | _ => .none) | _ => .none)]
  · simp [lv, tv, dws]
  · intro x hx
    obtain ⟨l, _, rfl⟩ := List.mem_map.mp hx
    show (mapO (toD (k + 1) S) (l.map .int)).map PySem.PyData.tuple = _
    simp only [toD_ints, Option.map_some]
    simp [tv]
theorem toD_web {k : Nat} {S : Store} {ts : List (List Int)} {n : Int} : toD (k + 4) S (.tup [.int n, .tup (lv ts)]) = some (.tuple [.int n, .tuple (dws ts)]) := by
  show (mapO (toD (k + 3) S) [.int n, .tup (lv ts)]).map PySem.PyData.tuple = _
  simp only [mapO, toD_int (k := k + 2), toD_tlv, Option.map_some]
theorem dat_wweb {S : Store} {m : Nat} {k : Bool} {ws ts : List (List Int)} {n : Int} (h : S[m]? = some (.lst k [.tup (lv ws), .tup [.int n, .tup (lv ts)]])) : Rf.dataOf S (.ref m) = some (.list [.tuple (dws ws), .tuple [.int n, .tuple (dws ts)]]) := by
  unfold Rf.dataOf toD
  simp only [h]
  show (mapO (toD 19 S) [.tup (lv ws), .tup [.int n, .tup (lv ts)]]).map PySem.PyData.list = _
  simp only [mapO, toD_tlv (k := 16), toD_web (k := 15), Option.map_some]
theorem ne_il {S : Store} {m n : Nat} {k k' : Bool} {l l' : List Int} (h : S[m]? = some (.lst k (l.map .int))) (h' : S[n]? = some (.lst k' (l'.map .int))) : cmpV .ne (.ref m) (.ref n) S = some (!decide (l = l')) := by
  show (eqV (.ref m) (.ref n) S).map (!·) = _
  rw [eqV_lst h h']; rfl
theorem cnt_lst {S : Store} {m : Nat} {k : Bool} {l : List Int} {x : Int} (h : S[m]? = some (.lst k (l.map .int))) : mtV .lcount (.ref m) [.int x] S = some (.int (l.count x : Nat), S) := by
  simp only [mtV, h, ints_sum, Option.map_some]
end Cm

/-! CG0: commons of the webs: dicts from numbers to numbers, comprehensions with a state, dicts by comprehension. -/
namespace CG
open Rf Cm
/-! ### loops, turn by turn -/
section
variable {set : Val → Rf.Env → Store → R Rf.Env} {body : Rf.Env → Store → R3} {J : Itv} {fu i : Nat} {ρ ρ1 ρ2 : Rf.Env} {S S1 S2 : Store} {v w : Val}
theorem loop_step {r3 : R3} (hi : itAt J i S = some (some v)) (hs : set v ρ S = some (ρ1, S1)) (hb : body ρ1 S1 = some (.nx, ρ2, S2)) (hr : loopGo set body J fu (i + 1) ρ2 S2 = r3) : loopGo set body J (fu + 1) i ρ S = r3 := by
  unfold loopGo
  rw [hi]
  dsimp only
  rw [hs, bnd_some, hb]
  exact hr
theorem loop_end (hi : itAt J i S = some none) : loopGo set body J (fu + 1) i ρ S = some (.nx, ρ, S) := by
  unfold loopGo
  rw [hi]
end
/-- all is kept -/
def Kp (S S' : Store) : Prop := ∀ (k : Nat) (o : Rf.Obj), S[k]? = some o → S'[k]? = some o
theorem Kp.refl (S : Store) : Kp S S := fun _ _ h => h
theorem Kp.of {S S' : Store} (l : Le S S') : Kp S S' := fun k o h => l.get h
theorem Kp.add (S T : Store) : Kp S (S ++ T) := .of (.add _ _)
theorem Kp.trans {S1 S2 S3 : Store} (a : Kp S1 S2) (b : Kp S2 S3) : Kp S1 S3 := fun k o h => b k o (a k o h)
theorem Kp.len {S S' : Store} (h : Kp S S') : S.length ≤ S'.length := by
  apply Nat.le_of_not_lt
  intro hl
  have g := h S'.length _ (List.getElem?_eq_getElem hl)
  rw [List.getElem?_eq_none (Nat.le_refl _)] at g
  cases g
theorem Kp.fr {S S' : Store} (h : Kp S S') (hs : SrcOk S) : Fr S S' := by
  obtain ⟨cs, l, m, t, h3, h2, hl⟩ := hs
  exact ⟨⟨cs, l, m, t, h _ _ h3, h _ _ h2, hl⟩, fun k o _ _ hk => h k o hk⟩
/-- an object made behind S0 is written -/
theorem Kp.set {S0 S : Store} {n : Nat} {o : Rf.Obj} (h : Kp S0 S) (hn : S0.length ≤ n) : Kp S0 (S.set n o) := fun k ob hk => by
  have := (List.getElem?_eq_some_iff.mp hk).1
  rw [set_ne (by omega)]
  exact h k ob hk
/-! ### numbers -/
theorem nadd {a b : Nat} {S : Store} : binV .add (.int (a : Int)) (.int (b : Int)) S = some (.int ((a + b : Nat) : Int), S) := by
  show some (Val.int ((a : Int) + (b : Int)), S) = _
  rw [show ((a : Int) + (b : Int)) = ((a + b : Nat) : Int) by omega]
theorem nsub {a b : Nat} {S : Store} (h : b ≤ a) : binV .sub (.int (a : Int)) (.int (b : Int)) S = some (.int ((a - b : Nat) : Int), S) := by
  show some (Val.int ((a : Int) - (b : Int)), S) = _
  rw [show ((a : Int) - (b : Int)) = ((a - b : Nat) : Int) by omega]
theorem nmul {a b : Nat} {S : Store} (h : b < 1000000) : binV .mul (.int (a : Int)) (.int (b : Int)) S = some (.int ((a * b : Nat) : Int), S) := by
  rw [mul_r (small_nat h), Int.natCast_mul]
theorem ne_nat {m n : Nat} {S : Store} : cmpV .ne (.int (m : Nat)) (.int (n : Nat)) S = some (!decide (m = n)) := by
  rw [ne_int]
  congr 2
  rw [decide_eq_decide]
  omega
theorem eq_nat {m n : Nat} {S : Store} : cmpV .eq (.int (m : Nat)) (.int (n : Nat)) S = some (decide (m = n)) := by
  rw [eq_int]
  congr 1
  rw [decide_eq_decide]
  omega
theorem lt_nat {m n : Nat} {S : Store} : cmpV .lt (.int (m : Nat)) (.int (n : Nat)) S = some (decide (m < n)) := by
  show some (decide ((m : Int) < (n : Int))) = _
  congr 1
  rw [decide_eq_decide]
  omega
theorem le_nat {m n : Nat} {S : Store} : cmpV .le (.int (m : Nat)) (.int (n : Nat)) S = some (decide (m ≤ n)) := by
  show some (decide ((m : Int) ≤ (n : Int))) = _
  congr 1
  rw [decide_eq_decide]
  omega
/-- numbers as ints, as values -/
def zi (l : List Nat) : List Int := l.map fun b : Nat => (b : Int)
def nv (l : List Nat) : List Val := l.map fun b : Nat => .int (b : Int)
theorem nv_zi (l : List Nat) : nv l = (zi l).map .int := by unfold nv zi; rw [List.map_map]; rfl
theorem zi_len (l : List Nat) : (zi l).length = l.length := by simp [zi]
theorem nv_len (l : List Nat) : (nv l).length = l.length := by simp [nv]
theorem zi_inj : ∀ {l m : List Nat}, zi l = zi m → l = m
  | [], [], _ => rfl
  | [], _ :: _, h => by cases h
  | _ :: _, [], h => by cases h
  | x :: l, y :: m, h => by
    unfold zi at h
    rw [List.map_cons, List.map_cons] at h
    injection h with h1 h2
    have h3 : x = y := by omega
    rw [h3, zi_inj (l := l) (m := m) h2]
theorem zi_sum : ∀ l : List Nat, (zi l).sum = (l.sum : Nat)
  | [] => rfl
  | x :: l => by
    have := zi_sum l
    unfold zi at this ⊢
    rw [List.map_cons, List.sum_cons, List.sum_cons, this]; omega
theorem zi_mem {b : Nat} {l : List Nat} : ((b : Nat) : Int) ∈ zi l ↔ b ∈ l := by
  unfold zi
  rw [List.mem_map]
  constructor
  · rintro ⟨c, hc, e⟩
    have : c = b := by omega
    rw [← this]; exact hc
  · exact fun h => ⟨b, h, rfl⟩
theorem any_ints (x : Int) : ∀ u : List Int, ((u.map PySem.PyData.int).any fun z => PySem.PyData.eqv z (.int x)) = decide (x ∈ u)
  | [] => by simp
  | y :: u => by
    have ih := any_ints x u
    simp only [List.map_cons, List.any_cons, PySem.PyData.eqv, List.mem_cons] at ih ⊢
    rw [ih]
    by_cases h : y = x
    · subst h; simp
    · have h' : ¬ x = y := fun q => h q.symm
      simp [h, h']
theorem in_tup {x : Int} {u : List Int} {S : Store} : inV (.int x) (tv u) S = some (decide (x ∈ u)) := by
  unfold tv inV
  dsimp only
  rw [data_tup, dat_int]
  dsimp only
  rw [sh_int, sh_tup]
  show some _ = some _
  rw [any_ints]
theorem in_lst {x : Int} {r : Nat} {k : Bool} {u : List Int} {S : Store} (h : S[r]? = some (.lst k (u.map .int))) : inV (.int x) (.ref r) S = some (decide (x ∈ u)) := by
  unfold inV
  dsimp only
  rw [h]
  dsimp only
  rw [data_lst h, dat_int]
  dsimp only
  rw [sh_int, sh_lst]
  show some _ = some _
  rw [any_ints]
theorem in_dk {x : Int} {r : Nat} {k : Bool} {kvs : List (L2.Key × Val)} {S : Store} (h : S[r]? = some (.dk k kvs)) : inV (.int x) (.ref r) S = some (getK kvs (.inl x)).isSome := by
  unfold inV
  dsimp only
  rw [h]; rfl
theorem notin_of {x y : Val} {b : Bool} {S : Store} (h : inV x y S = some b) : cmpV .notin x y S = some (!b) := by
  show (inV x y S).map (!·) = _
  rw [h]; rfl
/-- a list is not empty -/
theorem ev_nonnil {cf : CF} {a : X} {ρ : Rf.Env} {S S1 : Store} {m : Nat} {k : Bool} {l : List Int} (h : ev cf a ρ S = some (.ref m, S1)) (g : S1[m]? = some (.lst k (l.map .int))) : ev cf (.cmp .ne a (.lst .nil)) ρ S = some (.bl (!decide (l = [])), S1 ++ [.lst false (([] : List Int).map .int)]) :=
  ev_cmp h (ev_lst evs_nil (show 0 ≤ 1000000 by decide)) (ne_il ((Le.add _ _).get g) get_last)
/-! ### sorted ints -/
theorem sorted_ints {r : Nat} {k : Bool} {l : List Int} {S : Store} (h : S[r]? = some (.lst k (l.map .int))) (hl : l.length ≤ 100000) : biV .sorted [.ref r] S = some (.ref S.length, S ++ [.lst false ((sortI l).map .int)]) := by
  have hs : (sortI l).length = l.length := (List.mergeSort_perm l _).length_eq
  show sortB [.ref r] S = _
  simp only [sortB, h]
  cases l with
  | nil =>
    show newL [] S = _
    rw [newL_ok (show ([] : List Val).length ≤ 1000000 by decide)]
    simp [sortI]
  | cons x l =>
    have e : mapO tupV ((x :: l).map Val.int) = none := rfl
    rw [e]
    dsimp only
    rw [ints_sum]
    dsimp only
    rw [newL_ok (by rw [List.length_map, hs]; omega)]
theorem sort_is {l : List Int} {ms : List Nat} (h1 : (zi ms).Perm l) (h2 : ms.Pairwise (· ≤ ·)) : sortI l = zi ms :=
  (sortI_uniq h1 (List.pairwise_map.mpr (h2.imp fun {a b} h => by omega))).symm
theorem range_filter_sorted (n : Nat) (p : Nat → Bool) : ((List.range n).filter p).Pairwise (· ≤ ·) :=
  ((List.pairwise_lt_range (n := n)).imp fun h => Nat.le_of_lt h).filter p
theorem range_filter_nd (n : Nat) (p : Nat → Bool) : ((List.range n).filter p).Nodup := List.nodup_range.filter p
/-- the sorted list of distinct numbers below n -/
theorem sort_nat {n : Nat} {l : List Nat} {p : Nat → Bool} (hn : l.Nodup) (hp : ∀ b, b ∈ l ↔ b < n ∧ p b = true) : sortI (zi l) = zi ((List.range n).filter p) := by
  refine sort_is ?_ (range_filter_sorted n p)
  unfold zi
  refine List.Perm.map _ ((List.perm_ext_iff_of_nodup (range_filter_nd n p) hn).mpr fun b => ?_)
  rw [hp, List.mem_filter, List.mem_range]
/-! ### dicts from numbers to numbers -/
def getN : List (Nat × Nat) → Nat → Option Nat
  | [], _ => none
  | (k', v) :: r, k => if k' = k then some v else getN r k
def putN (l : List (Nat × Nat)) (k v : Nat) : List (Nat × Nat) := if (getN l k).isSome then l.map (fun p => if p.1 = k then (p.1, v) else p) else l ++ [(k, v)]
def mergeN (l m : List (Nat × Nat)) : List (Nat × Nat) := m.foldl (fun a p => putN a p.1 p.2) l
def keysN (l : List (Nat × Nat)) : List Nat := l.map (·.1)
def dN (l : List (Nat × Nat)) : List (L2.Key × Val) := l.map fun p => (.inl (p.1 : Int), .int (p.2 : Int))
theorem dN_len (l : List (Nat × Nat)) : (dN l).length = l.length := by simp [dN]
theorem key_eq {a b : Nat} : ((Sum.inl (a : Int) : L2.Key) = Sum.inl (b : Int)) ↔ a = b := by
  constructor
  · intro h
    have := Sum.inl.inj h
    omega
  · rintro rfl; rfl
theorem get_dN (k : Nat) : ∀ l : List (Nat × Nat), getK (dN l) (.inl (k : Int)) = (getN l k).map fun v : Nat => Val.int (v : Int)
  | [] => rfl
  | (k', v) :: r => by
    have ih := get_dN k r
    show (if (Sum.inl ((k' : Nat) : Int) : L2.Key) = Sum.inl (k : Int) then some (Val.int (v : Int)) else getK (dN r) (.inl (k : Int))) = _
    unfold getN
    by_cases h : k' = k
    · rw [if_pos (key_eq.mpr h), if_pos h]; rfl
    · rw [if_neg (fun q => h (key_eq.mp q)), if_neg h, ih]
theorem repl_dN (k v : Nat) : ∀ l : List (Nat × Nat), replK (.inl (k : Int)) (.int (v : Int)) (dN l) = dN (l.map fun p => if p.1 = k then (p.1, v) else p)
  | [] => rfl
  | (k', w) :: r => by
    have ih := repl_dN k v r
    show (if (Sum.inl ((k' : Nat) : Int) : L2.Key) = Sum.inl (k : Int) then _ else _) = _
    by_cases h : k' = k
    · rw [if_pos (key_eq.mpr h)]
      show _ :: replK _ _ (dN r) = _
      rw [ih]
      simp [dN, h]
    · rw [if_neg (fun q => h (key_eq.mp q))]
      show _ :: replK _ _ (dN r) = _
      rw [ih]
      simp [dN, h]
theorem put_dN (l : List (Nat × Nat)) (k v : Nat) : putV (dN l) (.inl (k : Int)) (.int (v : Int)) = dN (putN l k v) := by
  unfold putV putN
  rw [get_dN]
  cases h : getN l k with
  | none =>
    rw [if_neg (by simp), if_neg (by simp)]
    simp [dN]
  | some w =>
    rw [if_pos (by simp), if_pos (by simp)]
    exact repl_dN k v l
theorem merge_dN : ∀ (m l : List (Nat × Nat)), mergeV (dN l) (dN m) = dN (mergeN l m)
  | [], l => rfl
  | (k, v) :: m, l => by
    show mergeV (putV (dN l) (.inl (k : Int)) (.int (v : Int))) (dN m) = _
    rw [put_dN, merge_dN m]; rfl
theorem getN_map (k v : Nat) : ∀ (l : List (Nat × Nat)) (b : Nat), getN (l.map fun p => if p.1 = k then (p.1, v) else p) b = if b = k then (getN l b).map fun _ => v else getN l b
  | [], b => by simp [getN]
  | (k', w) :: r, b => by
    have ih := getN_map k v r b
    rw [List.map_cons]
    by_cases h : k' = k
    · rw [if_pos h]
      simp only [getN]
      by_cases hb : k' = b
      · rw [if_pos hb, if_pos hb, if_pos (by omega)]; rfl
      · rw [if_neg hb, if_neg hb, ih]
    · rw [if_neg h]
      simp only [getN]
      by_cases hb : k' = b
      · rw [if_pos hb, if_pos hb, if_neg (by omega)]
      · rw [if_neg hb, if_neg hb, ih]
theorem getN_app (k v : Nat) : ∀ (l : List (Nat × Nat)) (b : Nat), getN (l ++ [(k, v)]) b = (getN l b).or (if b = k then some v else none)
  | [], b => by
    show (if k = b then some v else none) = _
    by_cases h : k = b
    · rw [if_pos h, if_pos h.symm]; rfl
    · rw [if_neg h, if_neg fun q => h q.symm]; rfl
  | (k', w) :: r, b => by
    rw [List.cons_append]
    unfold getN
    by_cases h : k' = b
    · rw [if_pos h, if_pos h]; rfl
    · rw [if_neg h, if_neg h, getN_app k v r b]
theorem getN_put (l : List (Nat × Nat)) (k v b : Nat) : getN (putN l k v) b = if b = k then some v else getN l b := by
  unfold putN
  cases h : getN l k with
  | none =>
    rw [if_neg (by simp), getN_app]
    by_cases hb : b = k
    · rw [if_pos hb, if_pos hb, hb, h]; rfl
    · rw [if_neg hb, if_neg hb, Option.or_none]
  | some w =>
    rw [if_pos (by simp), getN_map]
    by_cases hb : b = k
    · rw [if_pos hb, if_pos hb, hb, h]; rfl
    · rw [if_neg hb, if_neg hb]
theorem mem_keys {b : Nat} : ∀ {l : List (Nat × Nat)}, b ∈ keysN l ↔ (getN l b).isSome = true
  | [] => by simp [keysN, getN]
  | (k, v) :: l => by
    have ih := mem_keys (b := b) (l := l)
    unfold keysN at ih ⊢
    rw [List.map_cons, List.mem_cons, ih]
    have e : getN ((k, v) :: l) b = if k = b then some v else getN l b := rfl
    rw [e]
    by_cases h : k = b
    · rw [if_pos h]; simp [h]
    · rw [if_neg h]
      constructor
      · rintro (q | q)
        · exact absurd q.symm h
        · exact q
      · exact fun q => .inr q
theorem keys_put {l : List (Nat × Nat)} (k v : Nat) (h : (keysN l).Nodup) : (keysN (putN l k v)).Nodup := by
  unfold putN
  cases hk : getN l k with
  | none =>
    rw [if_neg (by simp)]
    have hn : k ∉ keysN l := fun q => by
      rw [mem_keys, hk] at q; cases q
    unfold keysN at h hn ⊢
    rw [List.map_append, List.nodup_append]
    refine ⟨h, by simp, ?_⟩
    intro a ha b hb
    simp only [List.map_cons, List.map_nil, List.mem_singleton] at hb
    subst hb
    exact fun q => hn (q ▸ ha)
  | some w =>
    rw [if_pos (by simp)]
    have e : keysN (l.map fun p => if p.1 = k then (p.1, v) else p) = keysN l := by
      unfold keysN
      rw [List.map_map]
      refine List.map_congr_left fun p _ => ?_
      show (if p.1 = k then (p.1, v) else p).1 = p.1
      split <;> rfl
    rw [e]; exact h
theorem keys_merge : ∀ {m l : List (Nat × Nat)}, (keysN l).Nodup → (keysN (mergeN l m)).Nodup
  | [], _, h => h
  | (k, v) :: m, _, h => keys_merge (m := m) (keys_put k v h)
theorem getN_merge : ∀ {m l : List (Nat × Nat)} {b : Nat}, (keysN m).Nodup → getN (mergeN l m) b = (getN m b).or (getN l b)
  | [], _, _, _ => rfl
  | (k, v) :: m, l, b, h => by
    unfold keysN at h
    rw [List.map_cons, List.nodup_cons] at h
    show getN (mergeN (putN l k v) m) b = _
    rw [getN_merge (m := m) h.2, getN_put]
    show _ = (if k = b then some v else getN m b).or (getN l b)
    by_cases hb : b = k
    · rw [if_pos hb, if_pos hb.symm]
      have hn : getN m b = none := by
        cases hg : getN m b with
        | none => rfl
        | some w =>
          exact absurd (mem_keys.mpr (by rw [hg]; rfl) : b ∈ keysN m) (by rw [hb]; exact h.1)
      rw [hn]; rfl
    · rw [if_neg hb, if_neg fun q => hb q.symm]
/-- keys of one value -/
theorem getN_const (v : Nat) : ∀ (bs : List Nat) (l : List (Nat × Nat)) (b : Nat), getN (mergeN l (bs.map fun x => (x, v))) b = if b ∈ bs then some v else getN l b
  | [], l, b => by simp [mergeN]
  | x :: bs, l, b => by
    show getN (mergeN (putN l x v) (bs.map fun x => (x, v))) b = _
    rw [getN_const v bs, getN_put]
    by_cases h1 : b ∈ bs
    · rw [if_pos h1, if_pos (List.mem_cons_of_mem _ h1)]
    · rw [if_neg h1]
      by_cases h2 : b = x
      · rw [if_pos h2, if_pos (by rw [h2]; exact List.mem_cons_self)]
      · rw [if_neg h2, if_neg (by simp [h1, h2])]
theorem intKeys_dN : ∀ l : List (Nat × Nat), intKeys (dN l) = some (zi (keysN l))
  | [] => rfl
  | (k, v) :: l => by
    have ih := intKeys_dN l
    show (match intKeys (dN l) with | some m => some ((k : Int) :: m) | none => none) = _
    rw [ih]; rfl
theorem sorted_dk {r n : Nat} {k : Bool} {l : List (Nat × Nat)} {p : Nat → Bool} {S : Store} (h : S[r]? = some (.dk k (dN l))) (hn : (keysN l).Nodup) (hp : ∀ b, (getN l b).isSome = true ↔ b < n ∧ p b = true) (h64 : n < 64) :
    biV .sorted [.ref r] S = some (.ref S.length, S ++ [.lst false ((zi ((List.range n).filter p)).map .int)]) := by
  have hs : sortI (zi (keysN l)) = zi ((List.range n).filter p) := sort_nat hn fun b => by rw [mem_keys, hp]
  have hlen : (zi (keysN l)).length < 64 := by
    have e : (sortI (zi (keysN l))).length = (zi (keysN l)).length := (List.mergeSort_perm _ _).length_eq
    rw [hs, zi_len] at e
    have := List.length_filter_le p (List.range n)
    rw [List.length_range] at this
    omega
  show sortB [.ref r] S = _
  simp only [sortB, h]
  rw [intKeys_dN]
  dsimp only
  rw [if_pos hlen, hs, newL_ok (by
    rw [List.length_map, zi_len]
    have := List.length_filter_le p (List.range n)
    rw [List.length_range] at this
    omega)]
/-! ### comprehensions -/
theorem ev_dc {cf : CF} {kx vx cnd : X} {tg : T} {it : I} {own : List Nat} {ρ : Rf.Env} {S S1 S2 : Store} {J : Itv} {ys : List Val} {kvs : List (L2.Key × Val)} (h : evI cf it ρ S = some (J, S1)) {n : Nat} (hl : itLen J S1 = n)
    (k : lcGo (dTurn own (asg cf tg) (ev cf cnd) (dPair (ev cf kx) (ev cf vx)) ρ) J (n + 1) 0 0 S1 = some (ys, S2)) (hp : mapO pairV ys = some kvs) : ev cf (.dc kx vx tg it cnd own) ρ S = some (.ref S2.length, S2 ++ [.dk false (mergeV [] kvs)]) := by
  show bnd (evI cf it ρ S) _ = _
  rw [h, bnd_some, hl]
  show bnd (lcGo (dTurn own (asg cf tg) (ev cf cnd) (dPair (ev cf kx) (ev cf vx)) ρ) J (n + 1) 0 0 S1) _ = _
  rw [k, bnd_some, hp]
theorem pairs_dN : ∀ ps : List (Nat × Nat), mapO pairV (ps.map fun p => Val.tup [.int (p.1 : Int), .int (p.2 : Int)]) = some (dN ps)
  | [] => rfl
  | p :: ps => by
    rw [List.map_cons]
    unfold mapO
    rw [pairs_dN ps]; rfl
/-- a comprehension without tests, a state along -/
theorem lc_acc {f : Val → Store → R (Option Val)} {J : Itv} {n : Nat} {S : Store} (P : List Val → Store → Prop) (item : Nat → Val) (h0 : P [] S) (hJ : ∀ ys S', P ys S' → ys.length ≤ n → itAt J ys.length S' = some (if ys.length < n then some (item ys.length) else none)) (hl : n ≤ 1000000)
    (hf : ∀ ys S', P ys S' → ys.length < n → ∃ y S2, f (item ys.length) S' = some (some y, S2) ∧ P (ys ++ [y]) S2) : ∃ ys S', lcGo f J (n + 1) 0 0 S = some (ys, S') ∧ P ys S' ∧ ys.length = n := by
  have main : ∀ k (ys : List Val) S', ys.length + k = n → P ys S' → ∃ zs S2, lcGo f J (k + 1) ys.length ys.length S' = some (zs, S2) ∧ P (ys ++ zs) S2 ∧ zs.length = k := by
    intro k
    induction k with
    | zero =>
      intro ys S' hi p
      have q := hJ ys S' p (by omega)
      rw [if_neg (by omega)] at q
      exact ⟨[], S', by simp only [lcGo, q], by simpa using p, rfl⟩
    | succ k ih =>
      intro ys S' hi p
      have q := hJ ys S' p (by omega)
      rw [if_pos (by omega)] at q
      obtain ⟨y, S2, e2, p2⟩ := hf ys S' p (by omega)
      obtain ⟨zs, S3, e3, p3, hz⟩ := ih (ys ++ [y]) S2 (by rw [List.length_append]; simp; omega) p2
      rw [List.length_append, List.length_singleton] at e3
      refine ⟨y :: zs, S3, ?_, by simpa using p3, by rw [List.length_cons, hz]⟩
      unfold lcGo
      rw [q]
      dsimp only
      rw [e2, bnd_some]
      dsimp only
      rw [if_pos (Nat.lt_of_lt_of_le (by omega : ys.length < 1000000) (le_size (Nat.le_refl _))), e3]; rfl
  obtain ⟨ys, S', e, p, hy⟩ := main n [] S (by simp) h0
  exact ⟨ys, S', e, by simpa using p, hy⟩
end CG

/-! CGD: the defs that laws of webs share, as terms; the places of the defs that they call are numbers. -/
namespace CG
open Rf Cm
def DNeigh : FD := ⟨1, 5, 
  (.cons (.asg (.slot 1) (.lc (.lst .nil) (.slot 2) (.rng (.cons (.idx (.slot 0) (.k (.int 0))) .nil)) (.k (.bl true)) [2]))
  (.cons (.loop (.tup (.cons (.slot 2) (.cons (.slot 3) .nil))) (.ex (.idx (.slot 0) (.k (.int 1)))) ((.cons (.ex (.mt .append (.idx (.slot 1) (.slot 2)) (.cons (.slot 3) .nil)))
    (.cons (.ex (.mt .append (.idx (.slot 1) (.slot 3)) (.cons (.slot 2) .nil)))
    .nil))))
  (.cons (.ret (.lc (.bi .sorted (.cons (.slot 4) .nil)) (.slot 4) (.ex (.slot 1)) (.k (.bl true)) [4]))
  .nil)))⟩
def DRow : FD := ⟨2, 8, 
  (.cons (.asg (.tup (.cons (.slot 2) (.cons (.slot 3) (.cons (.slot 4) .nil)))) (.tup (.cons (.dict1 (.slot 1) (.k (.int 0))) (.cons (.lst (.cons (.slot 1) .nil)) (.cons (.k (.int 0)) .nil)))))
  (.cons (.whl (.cmp .ne (.slot 3) (.lst .nil)) ((.cons (.asg (.tup (.cons (.slot 4) (.cons (.slot 6) .nil))) (.tup (.cons (.bin .add (.slot 4) (.k (.int 1))) (.cons (.dict [] .nil) .nil))))
    (.cons (.loop (.slot 5) (.ex (.slot 3)) ((.cons (.ex (.mt .update (.slot 6) (.cons (.dc (.slot 7) (.slot 4) (.slot 7) (.ex (.idx (.slot 0) (.slot 5))) (.cmp .notin (.slot 7) (.slot 2)) [7]) .nil)))
      .nil)))
    (.cons (.ex (.mt .update (.slot 2) (.cons (.slot 6) .nil)))
    (.cons (.asg (.slot 3) (.bi .sorted (.cons (.slot 6) .nil)))
    .nil))))))
  (.cons (.ret (.bi .tuple (.cons (.lc (.mt .get (.slot 2) (.cons (.slot 7) .nil)) (.slot 7) (.rng (.cons (.bi .len (.cons (.slot 0) .nil)) .nil)) (.k (.bl true)) [7]) .nil)))
  .nil)))⟩
def DDist (n : Nat) (r : Nat) : FD := ⟨1, 3, 
  (.cons (.asg (.slot 1) (.call n (.cons (.slot 0) .nil)))
  (.cons (.ret (.bi .tuple (.cons (.lc (.call r (.cons (.slot 1) (.cons (.slot 2) .nil))) (.slot 2) (.rng (.cons (.idx (.slot 0) (.k (.int 0))) .nil)) (.k (.bl true)) [2]) .nil)))
  .nil))⟩
def DFsi : FD := ⟨3, 5, 
  (.cons (.ret (.bi .sum (.cons (.lc (.bin .mul (.slot 3) (.slot 4)) (.tup (.cons (.slot 3) (.cons (.slot 4) .nil))) (.zip (.cons (.slot 1) (.cons (.idx (.slot 0) (.slot 2)) .nil))) (.k (.bl true)) [3, 4]) .nil)))
  .nil)⟩
def DFs (d : Nat) (f : Nat) : FD := ⟨2, 4, 
  (.cons (.asg (.slot 2) (.call d (.cons (.slot 0) .nil)))
  (.cons (.ret (.bi .tuple (.cons (.lc (.call f (.cons (.slot 2) (.cons (.slot 1) (.cons (.slot 3) .nil)))) (.slot 3) (.rng (.cons (.idx (.slot 0) (.k (.int 0))) .nil)) (.k (.bl true)) [3]) .nil)))
  .nil))⟩
def DMid (s : Nat) : FD := ⟨2, 5, 
  (.cons (.asg (.slot 2) (.call s (.cons (.slot 0) (.cons (.slot 1) .nil))))
  (.cons (.ret (.bi .tuple (.cons (.lc (.slot 3) (.tup (.cons (.slot 3) (.cons (.slot 4) .nil))) (.enum (.slot 2)) (.cmp .eq (.slot 4) (.bi .min (.cons (.slot 2) .nil))) [3, 4]) .nil)))
  .nil))⟩
def DPut : FD := ⟨2, 4, 
  (.cons (.ret (.bi .tuple (.cons (.lc (.bin .add (.slot 2) (.slot 3)) (.tup (.cons (.slot 2) (.cons (.slot 3) .nil))) (.zip (.cons (.slot 0) (.cons (.slot 1) .nil))) (.k (.bl true)) [2, 3]) .nil)))
  .nil)⟩
def DSource : FD := ⟨1, 3, 
  (.cons (.asg (.slot 1) (.k (.int 11)))
  (.cons (.loop (.slot 2) (.ex (.slot 0)) ((.cons (.asg (.slot 1) (.bin .mod (.bi .int (.cons (.bin .add (.bin .add (.bin .mul (.slot 1) (.k (.int 69069))) (.bin .mul (.slot 2) (.k (.int 31)))) (.k (.int 5))) .nil)) (.k (.int 2147483629))))
    .nil)))
  (.cons (.ret (.dict [(.str "cells"), (.str "left"), (.str "mixed"), (.str "turn")] (.cons (.rev (.lc (.bi .abs (.cons (.slot 2) .nil)) (.slot 2) (.ex (.slot 0)) (.k (.bl true)) [2])) (.cons (.k (.int 1)) (.cons (.slot 1) (.cons (.k (.int 0)) .nil))))))
  .nil)))⟩
def DPickG : FD := ⟨2, 4, 
  (.cons (.whl (.and (.cmp .gt (.slot 1) (.k (.int 1))) (.and (.cmp .lt (.idx (.slot 0) (.k (.str "left"))) (.k (.int 2))) (.cmp .gt (.bi .len (.cons (.idx (.slot 0) (.k (.str "cells"))) .nil)) (.k (.int 0))))) ((.cons (.asg (.sub (.slot 0) (.k (.str "left"))) (.mt .pop (.idx (.slot 0) (.k (.str "cells"))) .nil))
    .nil)))
  (.cons (.asg (.slot 2) (.idx (.slot 0) (.k (.str "left"))))
  (.cons (.ife (.or (.cmp .lt (.slot 1) (.k (.int 2))) (.cmp .gt (.slot 2) (.k (.int 1)))) ((.cons (.asg (.sub (.slot 0) (.k (.str "left"))) (.bin .fdiv (.slot 2) (.bi .max (.cons (.k (.int 1)) (.cons (.slot 1) .nil)))))
    (.cons (.ret (.bin .mod (.bi .int (.cons (.slot 2) .nil)) (.bi .max (.cons (.k (.int 1)) (.cons (.slot 1) .nil)))))
    .nil))) (.nil))
  (.cons (.asg (.sub (.slot 0) (.k (.str "turn"))) (.bin .add (.idx (.slot 0) (.k (.str "turn"))) (.k (.int 1))))
  (.cons (.asg (.slot 3) (.bin .mod (.bi .int (.cons (.bin .add (.idx (.slot 0) (.k (.str "mixed"))) (.bin .mul (.idx (.slot 0) (.k (.str "turn"))) (.k (.int 104729)))) .nil)) (.k (.int 998244353))))
  (.cons (.asg (.slot 3) (.bin .mod (.bi .int (.cons (.bin .add (.bin .mul (.slot 3) (.slot 3)) (.bin .mul (.idx (.slot 0) (.k (.str "turn"))) (.k (.int 17)))) .nil)) (.k (.int 2147483647))))
  (.cons (.asg (.sub (.slot 0) (.k (.str "mixed"))) (.slot 3))
  (.cons (.ret (.bin .mod (.bi .int (.cons (.bin .fdiv (.slot 3) (.k (.int 16))) .nil)) (.slot 1)))
  .nil))))))))⟩
def DOf (p : Nat) : FD := ⟨2, 2, 
  (.cons (.ret (.idx (.slot 1) (.call p (.cons (.slot 0) (.cons (.bi .len (.cons (.slot 1) .nil)) .nil)))))
  .nil)⟩
def DMixed (p : Nat) : FD := ⟨2, 4, 
  (.cons (.asg (.slot 2) (.bi .list (.cons (.slot 1) .nil)))
  (.cons (.ret (.lc (.mt .pop (.slot 2) (.cons (.call p (.cons (.slot 0) (.cons (.bi .len (.cons (.slot 2) .nil)) .nil))) .nil)) (.slot 3) (.rng (.cons (.bi .len (.cons (.slot 2) .nil)) .nil)) (.k (.bl true)) [3]))
  .nil))⟩
def DApart : FD := ⟨2, 4, 
  (.cons (.ret (.bi .len (.cons (.lc (.k (.int 1)) (.tup (.cons (.slot 2) (.cons (.slot 3) .nil))) (.zip (.cons (.slot 0) (.cons (.slot 1) .nil))) (.cmp .ne (.slot 2) (.slot 3)) [2, 3]) .nil)))
  .nil)⟩
def DHullW : FD := ⟨2, 5, 
  (.cons (.asg (.slot 2) (.lc (.slot 3) (.slot 3) (.rng (.cons (.bi .len (.cons (.idx (.slot 1) (.k (.int 0))) .nil)) .nil)) (.cmp .eq (.bi .len (.cons (.bi .dict (.cons (.lc (.tup (.cons (.idx (.slot 4) (.slot 3)) (.cons (.k (.int 0)) .nil))) (.slot 4) (.ex (.slot 1)) (.k (.bl true)) [4]) .nil)) .nil)) (.k (.int 1))) [3]))
  (.cons (.ret (.lc (.slot 4) (.slot 4) (.ex (.slot 0)) (.cmp .eq (.lc (.slot 3) (.slot 3) (.ex (.slot 2)) (.cmp .ne (.idx (.slot 4) (.slot 3)) (.idx (.idx (.slot 1) (.k (.int 0))) (.slot 3))) [3]) (.lst .nil)) [4]))
  .nil))⟩
def DWayW (a : Nat) : FD := ⟨3, 6, 
  (.cons (.asg (.slot 3) (.lst (.cons (.slot 1) .nil)))
  (.cons (.whl (.cmp .ne (.idx (.slot 3) (.neg (.k (.int 1)))) (.slot 2)) ((.cons (.asg (.slot 4) (.lc (.slot 5) (.slot 5) (.ex (.slot 0)) (.cmp .eq (.call a (.cons (.slot 5) (.cons (.idx (.slot 3) (.neg (.k (.int 1)))) .nil))) (.k (.int 1))) [5]))
    (.cons (.ex (.mt .append (.slot 3) (.cons (.idx (.lc (.slot 5) (.slot 5) (.ex (.slot 4)) (.cmp .lt (.call a (.cons (.slot 5) (.cons (.slot 2) .nil))) (.call a (.cons (.idx (.slot 3) (.neg (.k (.int 1)))) (.cons (.slot 2) .nil)))) [5]) (.k (.int 0))) .nil)))
    .nil))))
  (.cons (.ret (.slot 3))
  .nil)))⟩
def DWordsG (p : Nat) (o : Nat) (h : Nat) (w : Nat) (m : Nat) : FD := ⟨3, 9, 
  (.cons (.asg (.slot 3) (.lst (.cons (.tup .nil) .nil)))
  (.cons (.ife (.and (.not (.slot 2)) (.cmp .eq (.call p (.cons (.slot 0) (.cons (.k (.int 2)) .nil))) (.k (.int 0)))) ((.cons (.asg (.slot 3) (.lst (.cons (.tup (.cons (.k (.int 0)) (.cons (.k (.int 0)) (.cons (.k (.int 0)) .nil)))) (.cons (.tup (.cons (.k (.int 1)) (.cons (.k (.int 0)) (.cons (.k (.int 0)) .nil)))) (.cons (.tup (.cons (.k (.int 1)) (.cons (.k (.int 1)) (.cons (.k (.int 0)) .nil)))) (.cons (.tup (.cons (.k (.int 1)) (.cons (.k (.int 1)) (.cons (.k (.int 1)) .nil)))) (.cons (.tup (.cons (.k (.int 0)) (.cons (.k (.int 1)) (.cons (.k (.int 1)) .nil)))) (.cons (.tup (.cons (.k (.int 0)) (.cons (.k (.int 0)) (.cons (.k (.int 1)) .nil)))) .nil))))))))
    .nil)) (.nil))
  (.cons (.loop (.slot 4) (.rng (.cons (.call p (.cons (.slot 0) (.cons (.k (.int 7)) .nil))) .nil)) ((.cons (.asg (.slot 5) (.lc (.call o (.cons (.slot 0) (.cons (.slot 3) .nil))) (.slot 7) (.rng (.cons (.bin .add (.k (.int 1)) (.call p (.cons (.slot 0) (.cons (.k (.int 3)) .nil)))) .nil)) (.k (.bl true)) [7]))
    (.cons (.asg (.slot 6) (.call h (.cons (.slot 3) (.cons (.slot 5) .nil))))
    (.cons (.ife (.not (.slot 2)) ((.cons (.asg (.slot 6) (.call w (.cons (.slot 3) (.cons (.idx (.slot 5) (.k (.int 0))) (.cons (.idx (.slot 5) (.neg (.k (.int 1)))) .nil)))))
      .nil)) (.nil))
    (.cons (.ife (.cmp .le (.bin .add (.bi .len (.cons (.slot 3) .nil)) (.bi .len (.cons (.slot 6) .nil))) (.slot 1)) ((.cons (.asg (.slot 3) (.bin .add (.lc (.bin .add (.slot 8) (.tup (.cons (.k (.int 0)) .nil))) (.slot 8) (.ex (.slot 3)) (.k (.bl true)) [8]) (.lc (.bin .add (.slot 8) (.tup (.cons (.k (.int 1)) .nil))) (.slot 8) (.ex (.slot 6)) (.k (.bl true)) [8])))
      .nil)) (.nil))
    .nil))))))
  (.cons (.ret (.call m (.cons (.slot 0) (.cons (.slot 3) .nil))))
  .nil))))⟩
def DWebG (a : Nat) : FD := ⟨1, 4, 
  (.cons (.asg (.slot 1) (.lst .nil))
  (.cons (.loop (.slot 2) (.rng (.cons (.bi .len (.cons (.slot 0) .nil)) .nil)) ((.cons (.asg (.slot 1) (.bin .add (.slot 1) (.lc (.tup (.cons (.slot 3) (.cons (.slot 2) .nil))) (.slot 3) (.rng (.cons (.slot 2) .nil)) (.cmp .eq (.call a (.cons (.idx (.slot 0) (.slot 3)) (.cons (.idx (.slot 0) (.slot 2)) .nil))) (.k (.int 1))) [3])))
    .nil)))
  (.cons (.ret (.tup (.cons (.bi .len (.cons (.slot 0) .nil)) (.cons (.bi .tuple (.cons (.bi .sorted (.cons (.slot 1) .nil)) .nil)) .nil))))
  .nil)))⟩
def DTable (a : Nat) : FD := ⟨1, 3, 
  (.cons (.ret (.lc (.lc (.call a (.cons (.slot 1) (.cons (.slot 2) .nil))) (.slot 2) (.ex (.slot 0)) (.k (.bl true)) [2]) (.slot 1) (.ex (.slot 0)) (.k (.bl true)) [1]))
  .nil)⟩
def DVotes (p : Nat) : FD := ⟨2, 5, 
  (.cons (.asg (.slot 2) (.call p (.cons (.slot 0) (.cons (.k (.int 3)) .nil))))
  (.cons (.asg (.slot 3) (.lc (.call p (.cons (.slot 0) (.cons (.idx (.lst (.cons (.k (.int 2)) (.cons (.k (.int 4)) (.cons (.k (.int 30)) .nil)))) (.slot 2)) .nil))) (.slot 4) (.rng (.cons (.slot 1) .nil)) (.k (.bl true)) [4]))
  (.cons (.asg (.slot 4) (.call p (.cons (.slot 0) (.cons (.slot 1) .nil))))
  (.cons (.asg (.sub (.slot 3) (.slot 4)) (.bin .add (.idx (.slot 3) (.slot 4)) (.bi .int (.cons (.cmp .eq (.bi .max (.cons (.slot 3) .nil)) (.k (.int 0))) .nil))))
  (.cons (.ret (.bi .tuple (.cons (.slot 3) .nil)))
  .nil)))))⟩
def DFar : FD := ⟨2, 5, 
  (.cons (.ret (.lc (.bi .sum (.cons (.lc (.bin .mul (.slot 3) (.slot 4)) (.tup (.cons (.slot 3) (.cons (.slot 4) .nil))) (.zip (.cons (.slot 1) (.cons (.slot 2) .nil))) (.k (.bl true)) [3, 4]) .nil)) (.slot 2) (.ex (.slot 0)) (.k (.bl true)) [2]))
  .nil)⟩
def loopB : Sx → B
  | .loop _ _ b => b
  | .whl _ b => b
  | _ => .nil
end CG

/-! CG1: near places, the row of distances. -/
namespace CG
open Rf Cm
variable {tbl : List FD} {d : Nat} {S : Store}
/-! ### webs -/
def tieV (t : Nat × Nat) : Val := .tup [.int (t.1 : Int), .int (t.2 : Int)]
def webV (n : Nat) (ts : List (Nat × Nat)) : Val := .tup [.int (n : Int), .tup (ts.map tieV)]
def nearL (ts : List (Nat × Nat)) (a : Nat) : List Nat := ts.flatMap fun t => (if t.1 = a then [t.2] else []) ++ (if t.2 = a then [t.1] else [])
theorem nearL_snoc (ts : List (Nat × Nat)) (t : Nat × Nat) (a : Nat) : nearL (ts ++ [t]) a = nearL ts a ++ ((if t.1 = a then [t.2] else []) ++ (if t.2 = a then [t.1] else [])) := by
  simp [nearL]
def nbr (ts : List (Nat × Nat)) (n a : Nat) : List Nat := (List.range n).filter fun b => decide ((a, b) ∈ ts ∨ (b, a) ∈ ts)
/-- a web's ties: two places each, none twice -/
structure Ties (n : Nat) (ts : List (Nat × Nat)) : Prop where
  lt : ∀ t ∈ ts, t.1 < t.2 ∧ t.2 < n
  nd : ts.Nodup
theorem mem_nearL {ts : List (Nat × Nat)} {a b : Nat} : b ∈ nearL ts a ↔ (a, b) ∈ ts ∨ (b, a) ∈ ts := by
  unfold nearL
  rw [List.mem_flatMap]
  constructor
  · rintro ⟨⟨x, y⟩, h, hb⟩
    rw [List.mem_append] at hb
    rcases hb with hb | hb
    · split at hb
      · rename_i e
        rw [List.mem_singleton] at hb
        subst hb
        cases e
        exact .inl h
      · cases hb
    · split at hb
      · rename_i e
        rw [List.mem_singleton] at hb
        subst hb
        cases e
        exact .inr h
      · cases hb
  · rintro (h | h)
    · exact ⟨_, h, by simp⟩
    · exact ⟨_, h, by simp⟩
theorem nearL_nd {n a : Nat} : ∀ {ts : List (Nat × Nat)}, Ties n ts → (nearL ts a).Nodup
  | [], _ => by simp [nearL]
  | (x, y) :: ts, h => by
    obtain ⟨n1, n2⟩ := List.nodup_cons.mp h.nd
    have hx := h.lt _ List.mem_cons_self
    have ih := nearL_nd (a := a) (ts := ts) ⟨fun t ht => h.lt t (List.mem_cons_of_mem _ ht), n2⟩
    have e : nearL ((x, y) :: ts) a = ((if x = a then [y] else []) ++ (if y = a then [x] else [])) ++ nearL ts a := by simp [nearL]
    rw [e, List.nodup_append]
    refine ⟨?_, ih, ?_⟩
    · by_cases h1 : x = a
      · have h2 : y ≠ a := by dsimp only at hx; omega
        rw [if_pos h1, if_neg h2]; simp
      · rw [if_neg h1]
        split <;> simp
    · rintro b hb c hc rfl
      rw [mem_nearL] at hc
      rw [List.mem_append] at hb
      have hlt := fun t ht => h.lt t (List.mem_cons_of_mem _ ht)
      dsimp only at hx
      rcases hb with hb | hb
      · split at hb
        · rename_i q
          rw [List.mem_singleton] at hb
          subst hb q
          rcases hc with hc | hc
          · exact n1 hc
          · have := (hlt _ hc).1
            dsimp only at this
            omega
        · cases hb
      · split at hb
        · rename_i q
          rw [List.mem_singleton] at hb
          subst hb q
          rcases hc with hc | hc
          · have := (hlt _ hc).1
            dsimp only at this
            omega
          · exact n1 hc
        · cases hb
theorem near_sorted {n a : Nat} {ts : List (Nat × Nat)} (h : Ties n ts) : sortI (zi (nearL ts a)) = zi (nbr ts n a) := by
  refine sort_nat (nearL_nd h) fun b => ?_
  rw [mem_nearL, decide_eq_true_eq]
  constructor
  · intro q
    refine ⟨?_, q⟩
    rcases q with q | q
    · exact (h.lt _ q).2
    · have := h.lt _ q
      dsimp only at this
      omega
  · exact fun q => q.2
/-- lists of near places stand -/
def NearOk (S : Store) (r n : Nat) (g : Nat → List Nat) : Prop := ∃ rs : List Nat, S[r]? = some (.lst false (rs.map .ref)) ∧ rs.length = n ∧ ∀ a, a < n → ∃ x, rs[a]? = some x ∧ S[x]? = some (.lst false ((zi (g a)).map .int))
theorem NearOk.kp {S S' : Store} {r n : Nat} {g : Nat → List Nat} (h : NearOk S r n g) (k : Kp S S') : NearOk S' r n g := by
  obtain ⟨rs, h1, h2, h3⟩ := h
  exact ⟨rs, k _ _ h1, h2, fun a ha => let ⟨x, e1, e2⟩ := h3 a ha; ⟨x, e1, k _ _ e2⟩⟩
/-- a row is found -/
theorem NearOk.at {r n a : Nat} {g : Nat → List Nat} (h : NearOk S r n g) (ha : a < n) : ∃ x, ixV (.ref r) (.int (a : Int)) S = some (.ref x) ∧ S[x]? = some (.lst false ((zi (g a)).map .int)) := by
  obtain ⟨rs, h1, h2, h3⟩ := h
  obtain ⟨x, e1, e2⟩ := h3 a ha
  exact ⟨x, ix_lst h1 (at_nat (by rw [List.getElem?_map, e1]; rfl)), e2⟩
theorem range_item {lo : Int} {n i : Nat} {S : Store} : itAt (.rng lo 1 n) i S = some (if i < n then some (.int (lo + (i : Nat) * 1)) else none) := rfl
def rep0 (n : Nat) : Store := List.replicate n (.lst false [])
def refsF (s n : Nat) : List Val := (List.range n).map fun i => .ref (s + i)
theorem refsF_succ (s n : Nat) : refsF s (n + 1) = refsF s n ++ [.ref (s + n)] := by simp [refsF, List.range_succ]
theorem refsF_get (s n i : Nat) : (refsF s n)[i]? = if i < n then some (.ref (s + i)) else none := by
  unfold refsF
  rw [List.getElem?_map]
  by_cases h : i < n
  · rw [List.getElem?_range h, if_pos h]; rfl
  · rw [if_neg h, List.getElem?_eq_none (by simp; omega)]; rfl
theorem refsF_len (s n : Nat) : (refsF s n).length = n := by simp [refsF]
/-- n new empty lists -/
theorem new_lists {cf : CF} {tg : T} {own : List Nat} {xs : Xs} {ρ : Rf.Env} {n : Nat} (hx : evs cf xs ρ S = some ([.int (n : Int)], S)) (hn : n < 100000) (hs : ∀ (v : Val) (S : Store), ∃ ρ1, asg cf tg v (wipeE ρ own) S = some (ρ1, S)) :
    ev cf (.lc (.lst .nil) tg (.rng xs) (.k (.bl true)) own) ρ S = some (.ref (S.length + n), (S ++ rep0 n) ++ [.lst false (refsF S.length n)]) := by
  obtain ⟨ys, S', e, ⟨rfl, hy⟩, hl⟩ := lc_acc (f := dTurn own (asg cf tg) (ev cf (.k (.bl true))) (ev cf (.lst .nil)) ρ) (J := .rng 0 1 n) (n := n) (S := S) (fun ys S' => S' = S ++ rep0 ys.length ∧ ys = refsF S.length ys.length) (fun i => .int (0 + (i : Nat) * 1)) ⟨by simp [rep0], rfl⟩ (fun ys S' _ _ => range_item) (by omega) (by
    rintro ys S' ⟨rfl, hy⟩ hlt
    obtain ⟨ρ1, h1⟩ := hs (.int (0 + (ys.length : Nat) * 1)) (S ++ rep0 ys.length)
    have el : (S ++ rep0 ys.length).length = S.length + ys.length := by simp [rep0]
    refine ⟨_, _, turn_yes h1 (ev_lst evs_nil (show 0 ≤ 1000000 by decide)), ?_, ?_⟩
    · have e2 : (ys ++ [Val.ref (S ++ rep0 ys.length).length]).length = ys.length + 1 := by simp
      rw [e2, rep0, rep0, List.replicate_succ', List.append_assoc]
    · have e2 : (ys ++ [Val.ref (S ++ rep0 ys.length).length]).length = ys.length + 1 := by simp
      rw [e2, refsF_succ, ← hy, el])
  rw [hl] at e hy
  rw [hy] at e
  have := ev_lc (elt := .lst .nil) (t := tg) (cnd := .k (.bl true)) (own := own) (evI_rng1 (j := (n : Int)) hx (rng_small (by omega))) (n := n) (Int.toNat_natCast _) e
  have e3 : (S ++ rep0 n).length = S.length + n := by simp [rep0]
  rw [this, e3]
def NB : B := loopB (bnth DNeigh.body 1)
theorem app_n {n : Nat} {w : List Nat} {x : Nat} (h : S[n]? = some (.lst false ((zi w).map .int))) (hl : w.length < 100000) : mtV .append (.ref n) [.int (x : Int)] S = some (.non, S.set n (.lst false ((zi (w ++ [x])).map .int))) := by
  rw [app_lst h (by rw [List.length_map, zi_len]; omega)]
  simp [zi]
theorem nearL_len : ∀ {ts : List (Nat × Nat)} {a : Nat}, (nearL ts a).length ≤ 2 * ts.length
  | [], _ => by simp [nearL]
  | t :: ts, a => by
    have ih := nearL_len (ts := ts) (a := a)
    have e : nearL (t :: ts) a = ((if t.1 = a then [t.2] else []) ++ (if t.2 = a then [t.1] else [])) ++ nearL ts a := by simp [nearL]
    rw [e, List.length_append, List.length_append, List.length_cons]
    have h1 : (if t.1 = a then [t.2] else []).length ≤ 1 := by split <;> simp
    have h2 : (if t.2 = a then [t.1] else []).length ≤ 1 := by split <;> simp
    omega
/-- the rows of near places as they grow -/
structure Grow (S0 S : Store) (f b n : Nat) (g : Nat → List Nat) : Prop where
  kp : Kp S0 S
  lo : S0.length ≤ b
  fb : f = b + n
  hf : S[f]? = some (.lst false (refsF b n))
  row : ∀ a, a < n → S[b + a]? = some (.lst false ((zi (g a)).map .int))
theorem Grow.app {S0 : Store} {f b n a x : Nat} {g : Nat → List Nat} (h : Grow S0 S f b n g) (ha : a < n) : Grow S0 (S.set (b + a) (.lst false ((zi (g a ++ [x])).map .int))) f b n (fun c => if c = a then g c ++ [x] else g c) := by
  obtain ⟨k, lo, fb, hf, row⟩ := h
  refine ⟨k.set (by omega), lo, fb, ?_, fun c hc => ?_⟩
  · rw [set_ne (by omega)]; exact hf
  · by_cases e : c = a
    · subst e
      rw [if_pos rfl]
      exact set_at (row c hc)
    · rw [if_neg e, set_ne (by omega)]
      exact row c hc
theorem Grow.step {S0 : Store} {cf : CF} {f b n a x : Nat} {g : Nat → List Nat} {ρ : Rf.Env} {i j k : Nat} (h : Grow S0 S f b n g) (ha : a < n) (hl : (g a).length < 100000) (e1 : ev cf (.slot i) ρ S = some (.ref f, S)) (e2 : ev cf (.slot j) ρ S = some (.int (a : Int), S)) (e3 : ev cf (.slot k) ρ S = some (.int (x : Int), S)) :
    ex cf 200 (.ex (.mt .append (.idx (.slot i) (.slot j)) (.cons (.slot k) .nil))) ρ S = some (.nx, ρ, S.set (b + a) (.lst false ((zi (g a ++ [x])).map .int))) :=
  ex_ex (ev_mt (ev_idx e1 e2 (ix_lst h.hf (at_nat (i := a) (x := .ref (b + a)) (by rw [refsF, List.getElem?_map, List.getElem?_range ha]; rfl)))) (rcv_lst (h.row a ha)) (evs_cons e3 evs_nil) (app_n (h.row a ha) hl))
theorem c_near {f : Nat} (hTab : tbl[f]? = some DNeigh) {n : Nat} {ts : List (Nat × Nat)} (hT : Ties n ts) (hn : n < 1000) (ht : ts.length < 10000) : ∃ r S', C tbl (d + 1) f [webV n ts] S = some (.ref r, S') ∧ Kp S S' ∧ NearOk S' r n (nbr ts n) := by
  have e0 := new_lists (cf := C tbl d) (tg := .slot 2) (own := [2]) (xs := .cons (.idx (.slot 0) (.k (.int 0))) .nil) (ρ := [some (webV n ts), none, none, none, none]) (S := S) (n := n) (evs_cons (ev_idx rfl rfl rfl) evs_nil) (by omega) (fun v S => ⟨_, rfl⟩)
  have g0 : Grow S ((S ++ rep0 n) ++ [.lst false (refsF S.length n)]) (S.length + n) S.length n (nearL []) := by
    refine ⟨(Kp.add _ _).trans (.add _ _), Nat.le_refl _, rfl, ?_, fun a ha => ?_⟩
    · have : (S ++ rep0 n).length = S.length + n := by simp [rep0]
      rw [← this]; exact get_last
    · have h1 : (S ++ rep0 n)[S.length + a]? = some (.lst false []) := by
        rw [List.getElem?_append_right (by omega), rep0, List.getElem?_replicate, if_pos (by omega)]
      exact (Le.add _ _).get h1
  generalize ((S ++ rep0 n) ++ [Rf.Obj.lst false (refsF S.length n)]) = S1 at e0 g0
  obtain ⟨ρ2, S2, e2, z2, z3, rfl, g2⟩ := loop_inv (set := asg (C tbl d) (.tup (.cons (.slot 2) (.cons (.slot 3) .nil)))) (body := exs (C tbl d) 200 NB) (J := .seq (.t (ts.map tieV))) (vs := ts.map tieV) (ρ := [some (webV n ts), some (.ref (S.length + n)), none, none, none]) (S := S1)
    (fun i ρ S' => ∃ z2 z3, ρ = [some (webV n ts), some (.ref (S.length + n)), z2, z3, none] ∧ Grow S S' (S.length + n) S.length n (nearL (ts.take i))) ⟨_, _, rfl, g0⟩ (fun i ρ S' _ => its_t S' (.refl _) i) (by
      rintro i v ρ S' ⟨z2, z3, rfl, g⟩ hv
      rw [List.getElem?_map, Option.map_eq_some_iff] at hv
      obtain ⟨⟨a, b⟩, hab, rfl⟩ := hv
      have hlt := hT.lt _ (List.mem_of_getElem? hab)
      dsimp only at hlt
      have hl : ∀ c, (nearL (ts.take i) c).length ≤ 2 * ts.length := fun c => Nat.le_trans nearL_len (by
        have := List.length_take_le i ts
        have h2 := List.length_take_le' i ts
        omega)
      have ha := hl a
      have hb := hl b
      have s1 := g.step (cf := C tbl d) (a := a) (x := b) (ρ := [some (webV n ts), some (.ref (S.length + n)), some (.int (a : Int)), some (.int (b : Int)), none]) (i := 1) (j := 2) (k := 3) (by omega) (by omega) rfl rfl rfl
      have g1 := g.app (a := a) (x := b) (by omega)
      have s2 := g1.step (cf := C tbl d) (a := b) (x := a) (ρ := [some (webV n ts), some (.ref (S.length + n)), some (.int (a : Int)), some (.int (b : Int)), none]) (i := 1) (j := 3) (k := 2) (by omega) (by rw [if_neg (by omega)]; omega) rfl rfl rfl
      have g2 := g1.app (a := b) (x := a) (by omega)
      refine ⟨_, _, rfl, _, _, exs_nx s1 (exs_nx s2 exs_nil), _, _, rfl, ?_⟩
      have e : (fun c => if c = b then (if c = a then nearL (ts.take i) c ++ [b] else nearL (ts.take i) c) ++ [a] else (if c = a then nearL (ts.take i) c ++ [b] else nearL (ts.take i) c)) = nearL (ts.take (i + 1)) := by
        funext c
        rw [List.take_succ, hab]
        show _ = nearL (ts.take i ++ [(a, b)]) c
        rw [nearL_snoc]
        dsimp only
        by_cases h1 : c = b
        · have h2 : ¬ c = a := by omega
          rw [if_pos h1, if_neg h2, if_neg (fun q => h2 q.symm), if_pos h1.symm]; rfl
        · rw [if_neg h1, if_neg (fun q => h1 q.symm : ¬ b = c), List.append_nil]
          by_cases h2 : c = a
          · rw [if_pos h2, if_pos h2.symm]
          · rw [if_neg h2, if_neg (fun q => h2 q.symm), List.append_nil]
      rw [← e]
      exact g2)
  rw [List.length_map] at e2 g2
  rw [List.take_length] at g2
  have hlen : ∀ a, (nearL ts a).length ≤ 2 * ts.length := fun a => nearL_len
  obtain ⟨ys, S3, e3, ⟨hS3, hy⟩, hl3⟩ := lc_acc (f := dTurn [4] (asg (C tbl d) (.slot 4)) (ev (C tbl d) (.k (.bl true))) (ev (C tbl d) (.bi .sorted (.cons (.slot 4) .nil))) [some (webV n ts), some (.ref (S.length + n)), z2, z3, none]) (J := .seq (.l (S.length + n))) (n := n) (S := S2)
    (fun ys S' => S' = S2 ++ (List.range ys.length).map (fun a => .lst false ((zi (nbr ts n a)).map .int)) ∧ ys = refsF S2.length ys.length) (fun i => .ref (S.length + i)) ⟨by simp, rfl⟩ (fun ys S' h hle => by
      obtain ⟨rfl, _⟩ := h
      have hf := (Le.add S2 ((List.range ys.length).map (fun a => Rf.Obj.lst false ((zi (nbr ts n a)).map .int)))).get g2.hf
      simp only [itAt, srcAt, hf, refsF_get]) (by omega) (by
      rintro ys S' ⟨rfl, hy⟩ hlt
      have hr := (Le.add S2 ((List.range ys.length).map (fun a => Rf.Obj.lst false ((zi (nbr ts n a)).map .int)))).get (g2.row ys.length hlt)
      have := hlen ys.length
      refine ⟨_, _, turn_yes (ρ1 := [some (webV n ts), some (.ref (S.length + n)), z2, z3, some (.ref (S.length + ys.length))]) rfl (ev_bi (evs_cons rfl evs_nil) (sorted_ints hr (by rw [zi_len]; omega))), ?_, ?_⟩
      · have e2 : ∀ x : Val, (ys ++ [x]).length = ys.length + 1 := fun x => by simp
        rw [near_sorted hT, e2, List.range_succ, List.map_append, ← List.append_assoc]; rfl
      · have e2 : ∀ x : Val, (ys ++ [x]).length = ys.length + 1 := fun x => by simp
        have e4 : (S2 ++ (List.range ys.length).map (fun a => Rf.Obj.lst false ((zi (nbr ts n a)).map .int))).length = S2.length + ys.length := by simp
        rw [e2, refsF_succ, ← hy, e4])
  rw [hl3] at hS3 hy
  rw [hy] at e3
  subst hS3
  refine ⟨_, _, (callF_at (F := DNeigh) hTab rfl).trans (run_ret (exs_nx (ex_asg e0 rfl) (exs_nx (ex_loop (evI_ex (ev_idx rfl rfl rfl) rfl) (n := ts.length) (by show (ts.map tieV).length = _; rw [List.length_map]) e2) (exs_ret (ex_ret (ev_lc (evI_ex rfl (src_l g2.hf)) (n := n) (by rw [itLen_l g2.hf, refsF_len]) e3)))))), g2.kp.trans ((Kp.add _ _).trans (.add _ _)), ?_⟩
  refine ⟨(List.range n).map fun i => S2.length + i, ?_, by simp, fun a ha => ⟨S2.length + a, by rw [List.getElem?_map, List.getElem?_range ha]; rfl, ?_⟩⟩
  · rw [get_last]
    simp [refsF, List.map_map]
  · have h1 : (S2 ++ (List.range n).map (fun a => Rf.Obj.lst false ((zi (nbr ts n a)).map .int)))[S2.length + a]? = some (.lst false ((zi (nbr ts n a)).map .int)) := by
      rw [List.getElem?_append_right (by omega), List.getElem?_map, List.getElem?_range (by omega), Nat.add_sub_cancel_left]; rfl
    exact (Le.add _ _).get h1
end CG

/-! CG2: the row of distances from a place. -/
namespace CG
open Rf Cm
/-! ### plainly: distances from x, by levels -/
structure Bfs (n : Nat) (near : Nat → List Nat) (x bb : Nat) (D : Nat → Option Nat) : Prop where
  x_lt : x < n
  at0 : ∀ b, b < n → (D b = some 0 ↔ b = x)
  lt : ∀ a, a < n → ∀ b ∈ near a, b < n
  up : ∀ a, a < n → ∀ b ∈ near a, ∀ k, D a = some k → ∃ j, D b = some j ∧ j ≤ k + 1
  dn : ∀ b, b < n → ∀ k, D b = some (k + 1) → ∃ a, a < n ∧ D a = some k ∧ b ∈ near a
  bd : ∀ b, b < n → ∀ j, D b = some j → j ≤ bb
def lev (n : Nat) (D : Nat → Option Nat) (k : Nat) : List Nat := (List.range n).filter fun b => decide (D b = some k)
/-- what is found up to step k -/
def fnd (n : Nat) (D : Nat → Option Nat) (k : Nat) (b : Nat) : Option Nat := if b < n then (match D b with
  | some j => if j ≤ k then some j else none
  | none => none) else none
theorem mem_lev {n k b : Nat} {D : Nat → Option Nat} : b ∈ lev n D k ↔ b < n ∧ D b = some k := by simp [lev]
theorem fnd_lt {n k b j : Nat} {D : Nat → Option Nat} (h : fnd n D k b = some j) : b < n ∧ D b = some j ∧ j ≤ k := by
  unfold fnd at h
  split at h
  · rename_i hb
    cases hd : D b with
    | none => rw [hd] at h; cases h
    | some i =>
      rw [hd] at h
      dsimp only at h
      split at h
      · cases h; exact ⟨hb, rfl, by assumption⟩
      · cases h
  · cases h
theorem fnd_of {n k b j : Nat} {D : Nat → Option Nat} (hb : b < n) (hd : D b = some j) (hj : j ≤ k) : fnd n D k b = some j := by
  unfold fnd
  rw [if_pos hb, hd]
  exact if_pos hj
theorem fnd_none {n k b : Nat} {D : Nat → Option Nat} (h : ∀ j, D b = some j → b < n → k < j) : fnd n D k b = none := by
  cases hf : fnd n D k b with
  | none => rfl
  | some j =>
    obtain ⟨h1, h2, h3⟩ := fnd_lt hf
    have := h j h2 h1
    omega
/-- the places late at step k, of the first i places of the level -/
def lat (n : Nat) (near : Nat → List Nat) (D : Nat → Option Nat) (k : Nat) (as : List Nat) (b : Nat) : Option Nat := if fnd n D k b = none ∧ ∃ a ∈ as, b ∈ near a then some (k + 1) else none
variable {n x bb k : Nat} {near : Nat → List Nat} {D : Nat → Option Nat}
theorem lat_all (h : Bfs n near x bb D) (b : Nat) : lat n near D k (lev n D k) b = if b < n ∧ D b = some (k + 1) then some (k + 1) else none := by
  unfold lat
  congr 1
  apply propext
  constructor
  · rintro ⟨h1, a, ha, hb⟩
    obtain ⟨ha1, ha2⟩ := mem_lev.mp ha
    have hbn := h.lt a ha1 b hb
    obtain ⟨j, hj, hjk⟩ := h.up a ha1 b hb k ha2
    refine ⟨hbn, ?_⟩
    by_cases hl : j ≤ k
    · rw [fnd_of hbn hj hl] at h1; cases h1
    · have : j = k + 1 := by omega
      rw [hj, this]
  · rintro ⟨h1, h2⟩
    refine ⟨fnd_none fun j hj _ => ?_, ?_⟩
    · rw [h2] at hj
      have := Option.some.inj hj
      omega
    · obtain ⟨a, ha, hd, hb⟩ := h.dn b h1 k h2
      exact ⟨a, mem_lev.mpr ⟨ha, hd⟩, hb⟩
theorem fnd_succ (b : Nat) : (if b < n ∧ D b = some (k + 1) then some (k + 1) else none).or (fnd n D k b) = fnd n D (k + 1) b := by
  by_cases h : b < n ∧ D b = some (k + 1)
  · rw [if_pos h]
    exact (fnd_of h.1 h.2 (Nat.le_refl _)).symm
  · rw [if_neg h]
    show fnd n D k b = _
    cases hf : fnd n D k b with
    | some j =>
      obtain ⟨h1, h2, h3⟩ := fnd_lt hf
      exact (fnd_of h1 h2 (by omega)).symm
    | none =>
      refine (fnd_none fun j hj hb => ?_).symm
      apply Nat.lt_of_not_le
      intro hle
      by_cases he : j = k + 1
      · subst he; exact h ⟨hb, hj⟩
      · rw [fnd_of hb hj (by omega)] at hf; cases hf
/-- where a level is empty, all is found -/
theorem fnd_end (h : Bfs n near x bb D) (hk : lev n D k = []) {b : Nat} (hb : b < n) : fnd n D k b = D b := by
  have key : ∀ j, ∀ b, b < n → D b = some (k + j) → False := by
    intro j
    induction j with
    | zero =>
      intro b hb hd
      have : b ∈ lev n D k := mem_lev.mpr ⟨hb, hd⟩
      rw [hk] at this; cases this
    | succ j ih =>
      intro b hb hd
      obtain ⟨a, ha, hd2, _⟩ := h.dn b hb (k + j) hd
      exact ih a ha hd2
  cases hd : D b with
  | none => exact fnd_none fun j hj _ => by rw [hd] at hj; cases hj
  | some j =>
    refine fnd_of hb hd ?_
    apply Nat.le_of_not_lt
    intro hlt
    exact key (j - k) b hb (by rw [hd]; congr 1; omega)
/-! ### the walk -/
/-- a dict that holds a function -/
def DkAt (S : Store) (r n : Nat) (F : Nat → Option Nat) : Prop := ∃ l, S[r]? = some (.dk false (dN l)) ∧ (keysN l).Nodup ∧ (∀ b, getN l b = F b) ∧ ∀ b, F b ≠ none → b < n
theorem dk_few {l : List (Nat × Nat)} {F : Nat → Option Nat} (hn : (keysN l).Nodup) (hF : ∀ b, getN l b = F b) (hb : ∀ b, F b ≠ none → b < n) : l.length ≤ n := by
  have hp : (keysN l).Perm ((List.range n).filter fun b => (F b).isSome) := (List.perm_ext_iff_of_nodup hn (range_filter_nd n _)).mpr fun b => by
    rw [mem_keys, hF, List.mem_filter, List.mem_range]
    constructor
    · intro h
      refine ⟨hb b fun q => ?_, h⟩
      rw [q] at h; cases h
    · exact fun h => h.2
  have e := hp.length_eq
  have := List.length_filter_le (fun b => (F b).isSome) (List.range n)
  rw [List.length_range] at this
  unfold keysN at e
  rw [List.length_map] at e
  omega
theorem DkAt.kp {S S' : Store} {r : Nat} {F : Nat → Option Nat} (h : DkAt S r n F) (k : Kp S S') : DkAt S' r n F := by
  obtain ⟨l, h1, h2, h3, h4⟩ := h
  exact ⟨l, k _ _ h1, h2, h3, h4⟩
theorem DkAt.ne {S : Store} {r : Nat} {F : Nat → Option Nat} {i : Nat} {lk : Bool} {xs : List Val} (h : DkAt S r n F) (g : S[i]? = some (.lst lk xs)) : i ≠ r := by
  rintro rfl
  obtain ⟨l, h1, _⟩ := h
  rw [h1] at g; cases g
/-- d.update(e) -/
theorem upd_dk {S : Store} {d e : Nat} {l m : List (Nat × Nat)} (hne : d ≠ e) (h1 : S[d]? = some (.dk false (dN l))) (h2 : S[e]? = some (.dk false (dN m))) (hl : l.length + m.length ≤ 100000) :
    mtV .update (.ref d) [.ref e] S = some (.non, S.set d (.dk false (dN (mergeN l m)))) := by
  simp only [mtV, h1, h2]
  rw [if_neg hne, dN_len, dN_len, if_pos (Nat.le_trans hl (Nat.le_trans (by decide) (le_size (Nat.le_refl 1000000)))), merge_dN]
theorem rcv_dk {S : Store} {d : Nat} {kvs : List (L2.Key × Val)} (h : S[d]? = some (.dk false kvs)) : rcvOk .update (.ref d) S = true := by simp only [rcvOk, h]
theorem rcv_get {S : Store} {d : Nat} {kvs : List (L2.Key × Val)} (h : S[d]? = some (.dk false kvs)) : rcvOk .get (.ref d) S = true := by simp only [rcvOk, h]
def WB : B := loopB (bnth DRow.body 1)
def UB : B := loopB (bnth WB 1)
abbrev ER (r x fr : Nat) (a3 a4 a5 a6 : Option Val) : Rf.Env := [some (.ref r), some (.int (x : Int)), some (.ref fr), a3, a4, a5, a6, none]
variable {tbl : List FD} {d : Nat} {S : Store} {r fr lr : Nat} {a3 a5 : Option Val}
/-- one place of the level -/
theorem one_upd {cf : CF} {a : Nat} {as : List Nat} (hB : Bfs n near x bb D) (hn : n < 1000) (hN : NearOk S r n near) (ha : a < n) (hf : DkAt S fr n (fnd n D k)) (hl : DkAt S lr n (lat n near D k as)) (hne : fr ≠ lr) (hlen : (near a).length < 10000) :
    ∃ S1 o, exs cf 200 UB (ER r x fr a3 (some (.int ((k + 1 : Nat) : Int))) (some (.int (a : Int))) (some (.ref lr))) S = some (.nx, ER r x fr a3 (some (.int ((k + 1 : Nat) : Int))) (some (.int (a : Int))) (some (.ref lr)), S1.set lr o) ∧ Le S S1 ∧ DkAt (S1.set lr o) lr n (lat n near D k (as ++ [a])) := by
  obtain ⟨row, e1, g1⟩ := hN.at ha
  obtain ⟨l, f1, f2, f3, f4⟩ := hf
  obtain ⟨m, m1, m2, m3, m4⟩ := hl
  obtain ⟨S2, e2, l2⟩ := lc_map (f := dTurn [7] (asg cf (.slot 7)) (ev cf (.cmp .notin (.slot 7) (.slot 2))) (dPair (ev cf (.slot 7)) (ev cf (.slot 4))) (ER r x fr a3 (some (.int ((k + 1 : Nat) : Int))) (some (.int (a : Int))) (some (.ref lr))))
    (J := .seq (.l row)) (ws := near a) (t := fun b : Nat => Val.int (b : Int)) (S := S) (fun b => if (!(fnd n D k b).isSome) = true then some (Val.tup [.int (b : Int), .int ((k + 1 : Nat) : Int)]) else none) (by
      have := its_l g1
      unfold zi at this
      rwa [List.map_map] at this) (by omega) (by
      intro b hb S' l'
      have hfr : S'[fr]? = some (.dk false (dN l)) := l'.get f1
      have t : ev cf (.cmp .notin (.slot 7) (.slot 2)) [some (.ref r), some (.int (x : Int)), some (.ref fr), a3, some (.int ((k + 1 : Nat) : Int)), some (.int (a : Int)), some (.ref lr), some (.int (b : Int))] S' = some (.bl (!(fnd n D k b).isSome), S') := by
        refine ev_cmp rfl rfl (notin_of ?_)
        rw [in_dk hfr, get_dN, f3]
        cases fnd n D k b <;> rfl
      by_cases h : (!(fnd n D k b).isSome) = true
      · rw [if_pos h]
        rw [h] at t
        exact ⟨S', turn_t rfl t (y := .tup [.int (b : Int), .int ((k + 1 : Nat) : Int)]) rfl, .refl _⟩
      · rw [if_neg h]
        rw [Bool.eq_false_iff.mpr h] at t
        exact ⟨S', turn_f rfl t, .refl _⟩)
  rw [filterMap_if] at e2
  have hmap : ((near a).filter fun b => !(fnd n D k b).isSome).map (fun b : Nat => Val.tup [.int (b : Int), .int ((k + 1 : Nat) : Int)]) = (((near a).filter fun b => !(fnd n D k b).isSome).map fun b => (b, k + 1)).map fun p => Val.tup [.int (p.1 : Int), .int (p.2 : Int)] := by
    rw [List.map_map]; rfl
  rw [hmap] at e2
  have ed := ev_dc (kx := .slot 7) (vx := .slot 4) (cnd := .cmp .notin (.slot 7) (.slot 2)) (tg := .slot 7) (own := [7]) (it := .ex (.idx (.slot 0) (.slot 5))) (cf := cf) (evI_ex (ev_idx rfl rfl e1) (src_l g1)) (n := (near a).length) (by rw [itLen_l g1, List.length_map, zi_len]) e2 (pairs_dN _)
  rw [show mergeV [] (dN (((near a).filter fun b => !(fnd n D k b).isSome).map fun b => (b, k + 1))) = dN (mergeN [] (((near a).filter fun b => !(fnd n D k b).isSome).map fun b => (b, k + 1))) from merge_dN _ []] at ed
  generalize hq : mergeN [] (((near a).filter fun b => !(fnd n D k b).isSome).map fun b => (b, k + 1)) = q at ed
  have qn : (keysN q).Nodup := by rw [← hq]; exact keys_merge (by simp [keysN])
  have qg : ∀ b, getN q b = if b ∈ near a ∧ fnd n D k b = none then some (k + 1) else none := by
    intro b
    rw [← hq, getN_const]
    have : b ∈ ((near a).filter fun b => !(fnd n D k b).isSome) ↔ b ∈ near a ∧ fnd n D k b = none := by
      rw [List.mem_filter]
      cases fnd n D k b <;> simp
    simp only [this]; rfl
  have ql : q.length ≤ n := dk_few qn (fun b => rfl) fun b hb => by
    rw [qg] at hb
    split at hb
    · rename_i hh
      exact hB.lt a ha b hh.1
    · exact absurd rfl hb
  have ml := dk_few m2 m3 m4
  have lm2 : (S2 ++ [Rf.Obj.dk false (dN q)])[lr]? = some (.dk false (dN m)) := (Le.add _ _).get (l2.get m1)
  have hlt : lr < S2.length := (List.getElem?_eq_some_iff.mp (l2.get m1)).1
  refine ⟨S2 ++ [.dk false (dN q)], .dk false (dN (mergeN m q)), exs_nx (ex_ex (ev_mt rfl (rcv_dk m1) (evs_cons ed evs_nil) (upd_dk (by omega) lm2 get_last (by omega)))) exs_nil, l2.trans (.add _ _), mergeN m q, set_at lm2, keys_merge m2, fun b => ?_, fun b hb => ?_⟩
  · rw [getN_merge qn, qg, m3]
    by_cases h1 : fnd n D k b = none
    · by_cases h2 : b ∈ near a
      · have e : lat n near D k (as ++ [a]) b = some (k + 1) := by unfold lat; exact if_pos ⟨h1, a, by simp, h2⟩
        rw [if_pos ⟨h2, h1⟩, e]; rfl
      · rw [if_neg fun q => h2 q.1]
        show lat n near D k as b = _
        unfold lat
        congr 1
        apply propext
        constructor
        · rintro ⟨q1, c, hc, hb⟩
          exact ⟨q1, c, List.mem_append_left _ hc, hb⟩
        · rintro ⟨q1, c, hc, hb⟩
          rcases List.mem_append.mp hc with hc | hc
          · exact ⟨q1, c, hc, hb⟩
          · rw [List.mem_singleton.mp hc] at hb
            exact absurd hb h2
    · have e : ∀ as, lat n near D k as b = none := fun as => by unfold lat; exact if_neg fun q => h1 q.1
      rw [if_neg fun q => h1 q.2, e, e]; rfl
  · unfold lat at hb
    split at hb
    · rename_i hh
      obtain ⟨q1, c, hc, hcb⟩ := hh
      rcases List.mem_append.mp hc with hc | hc
      · exact m4 b (by unfold lat; rw [if_pos ⟨q1, c, hc, hcb⟩]; exact fun z => nomatch z)
      · rw [List.mem_singleton.mp hc] at hcb
        exact hB.lt a ha b hcb
    · exact absurd rfl hb
end CG

/-! CG3: the row of distances, the table. -/
namespace CG
open Rf Cm
variable {n x bb k : Nat} {near : Nat → List Nat} {D : Nat → Option Nat} {tbl : List FD} {d : Nat} {S : Store} {r fr lr lv : Nat} {a3 a5 a6 : Option Val}
/-- all is kept but one -/
def Kb (S : Store) (c : Nat) (S' : Store) : Prop := ∀ (j : Nat) (o : Rf.Obj), S[j]? = some o → j ≠ c → S'[j]? = some o
theorem NearOk.kb {S S' : Store} {c : Nat} {F : Nat → Option Nat} (h : NearOk S r n near) (hc : DkAt S c n F) (k : Kb S c S') : NearOk S' r n near := by
  obtain ⟨rs, h1, h2, h3⟩ := h
  exact ⟨rs, k _ _ h1 (hc.ne h1), h2, fun a ha => let ⟨x, e1, e2⟩ := h3 a ha; ⟨x, e1, k _ _ e2 (hc.ne e2)⟩⟩
theorem DkAt.kb {S S' : Store} {c f : Nat} {F : Nat → Option Nat} (h : DkAt S f n F) (hne : f ≠ c) (k : Kb S c S') : DkAt S' f n F := by
  obtain ⟨l, h1, h2, h3, h4⟩ := h
  exact ⟨l, k _ _ h1 hne, h2, h3, h4⟩
theorem one_level {cf : CF} (hB : Bfs n near x bb D) (hn : n < 64) (hN : NearOk S r n near) (hf : DkAt S fr n (fnd n D k)) (hlv : S[lv]? = some (.lst false ((zi (lev n D k)).map .int))) (hlen : ∀ a, a < n → (near a).length < 10000) :
    ∃ lv' z5 z6 S', exs cf 200 WB (ER r x fr (some (.ref lv)) (some (.int (k : Int))) a5 a6) S = some (.nx, ER r x fr (some (.ref lv')) (some (.int ((k + 1 : Nat) : Int))) z5 z6, S') ∧ Kb S fr S' ∧ DkAt S' fr n (fnd n D (k + 1)) ∧ S'[lv']? = some (.lst false ((zi (lev n D (k + 1))).map .int)) := by
  have hlr : fr ≠ S.length := by
    obtain ⟨l, h1, _⟩ := hf
    have := (List.getElem?_eq_some_iff.mp h1).1
    omega
  have hlvl : lv < S.length := (List.getElem?_eq_some_iff.mp hlv).1
  have d0 : DkAt (S ++ [.dk false []]) S.length n (lat n near D k []) := ⟨[], get_last, by simp [keysN], fun b => by unfold lat; rw [if_neg (by simp)]; rfl, fun b hb => absurd (by unfold lat; rw [if_neg (by simp)]) hb⟩
  have i0 : ex cf 200 (bnth WB 0) (ER r x fr (some (.ref lv)) (some (.int (k : Int))) a5 a6) S = some (.nx, ER r x fr (some (.ref lv)) (some (.int ((k + 1 : Nat) : Int))) a5 (some (.ref S.length)), S ++ [.dk false []]) :=
    ex_asg (ev_tup (vs := [.int ((k + 1 : Nat) : Int), .ref S.length]) (evs_cons (ev_bin rfl rfl add1) (evs_cons rfl evs_nil)) (show 2 ≤ 1000000 by decide)) rfl
  have k1 : Kp S (S ++ [.dk false []]) := Kp.add _ _
  have hN1 := hN.kp k1
  have hf1 := hf.kp k1
  have hlv1 := k1 _ _ hlv
  generalize (S ++ [Rf.Obj.dk false []]) = S1 at i0 d0 k1 hN1 hf1 hlv1
  generalize hq : S.length = lr at i0 d0 hlr hlvl
  obtain ⟨ρ2, S2, e2, z5, rfl, kb, d2⟩ := loop_inv (set := asg cf (.slot 5)) (body := exs cf 200 UB) (J := .seq (.l lv)) (vs := (zi (lev n D k)).map .int) (ρ := ER r x fr (some (.ref lv)) (some (.int ((k + 1 : Nat) : Int))) a5 (some (.ref lr))) (S := S1)
    (fun i ρ S' => ∃ z5, ρ = ER r x fr (some (.ref lv)) (some (.int ((k + 1 : Nat) : Int))) z5 (some (.ref lr)) ∧ Kb S1 lr S' ∧ DkAt S' lr n (lat n near D k ((lev n D k).take i))) ⟨_, rfl, fun j o h _ => h, d0⟩ (by
      rintro i ρ S' ⟨z5, rfl, kb, _⟩
      exact its_l (kb _ _ hlv1 (by omega)) S' (.refl _) i) (by
      rintro i v ρ S' ⟨z5, rfl, kb, dl⟩ hv
      rw [List.getElem?_map, zi, List.getElem?_map, Option.map_eq_some_iff] at hv
      obtain ⟨ai, hv, rfl⟩ := hv
      obtain ⟨a, ha, rfl⟩ := Option.map_eq_some_iff.mp hv
      have han := (mem_lev.mp (List.mem_of_getElem? ha)).1
      obtain ⟨S3, o, e3, l3, d3⟩ := one_upd (cf := cf) (k := k) (x := x) (a3 := some (.ref lv)) (as := (lev n D k).take i) hB (by omega) (hN1.kb d0 kb) han (hf1.kb hlr kb) dl hlr (hlen a han)
      refine ⟨_, _, rfl, _, _, e3, _, rfl, fun j ob h hj => ?_, ?_⟩
      · rw [set_ne (Ne.symm hj)]
        exact l3.get (kb j ob h hj)
      · rw [List.take_succ, ha]
        exact d3)
  rw [List.length_map, zi_len] at e2 d2
  rw [List.take_length] at d2
  have f2 := hf1.kb hlr kb
  obtain ⟨l, f3, f4, f5, f6⟩ := f2
  obtain ⟨m, m3, m4, m5, m6⟩ := d2
  have ll := dk_few f4 f5 f6
  have ml := dk_few m4 m5 m6
  have hm : ∀ b, getN m b = if b < n ∧ D b = some (k + 1) then some (k + 1) else none := fun b => by rw [m5, lat_all hB]
  have m3' : (S2.set fr (.dk false (dN (mergeN l m))))[lr]? = some (.dk false (dN m)) := by rw [set_ne hlr]; exact m3
  have es := sorted_dk (n := n) (p := fun b => decide (D b = some (k + 1))) m3' m4 (fun b => by
    rw [hm]
    by_cases h : b < n ∧ D b = some (k + 1)
    · rw [if_pos h]; simp [h.1, h.2]
    · rw [if_neg h, decide_eq_true_eq]
      exact ⟨fun q => (by cases q), fun q => absurd q h⟩) hn
  refine ⟨_, z5, some (.ref lr), _, exs_nx i0 (exs_nx (ex_loop (evI_ex rfl (src_l hlv1)) (n := (lev n D k).length) (by rw [itLen_l hlv1, List.length_map, zi_len]) e2) (exs_nx (ex_ex (ev_mt rfl (rcv_dk f3) (evs_cons rfl evs_nil) (upd_dk hlr f3 m3 (by omega)))) (exs_nx (ex_asg (ev_bi (evs_cons rfl evs_nil) es) rfl) exs_nil))), fun j o h hj => ?_, ?_, get_last⟩
  · refine (Le.add _ _).get ?_
    rw [set_ne (Ne.symm hj)]
    refine kb j o (k1 j o h) ?_
    have := (List.getElem?_eq_some_iff.mp h).1
    omega
  · have hg : ∀ b, getN (mergeN l m) b = fnd n D (k + 1) b := fun b => by rw [getN_merge m4, hm, f5, fnd_succ]
    exact ⟨mergeN l m, (Le.add _ _).get (set_at f3), keys_merge f4, hg, fun b hb => by
      rw [← hg] at hb
      by_cases q : b < n
      · exact q
      · exfalso
        apply hb
        rw [hg]
        unfold fnd
        exact if_neg q⟩
/-- a distance as a value -/
def oV : Option Nat → Val
  | some j => .int (j : Int)
  | none => .non
def rowV (n : Nat) (D : Nat → Option Nat) : Val := .tup ((List.range n).map fun b => oV (D b))
theorem c_row {f : Nat} (hTab : tbl[f]? = some DRow) (hB : Bfs n near x bb D) (hn : n < 64) (hbb : bb < 150) (hN : NearOk S r n near) (hlen : ∀ a, a < n → (near a).length < 10000) :
    ∃ S', C tbl (d + 1) f [.ref r, .int (x : Int)] S = some (rowV n D, S') ∧ Kp S S' := by
  have k0 : Kp S ((S ++ [.dk false [(.inl (x : Int), .int (0 : Int))]]) ++ [.lst false [.int (x : Int)]]) := (Kp.add _ _).trans (.add _ _)
  have i0 : ex (C tbl d) 200 (bnth DRow.body 0) (startE DRow [.ref r, .int (x : Int)]) S = some (.nx, ER r x S.length (some (.ref (S.length + 1))) (some (.int ((0 : Nat) : Int))) none none, (S ++ [.dk false [(.inl (x : Int), .int (0 : Int))]]) ++ [.lst false [.int (x : Int)]]) := by
    have el : (S ++ [Rf.Obj.dk false [(.inl (x : Int), .int (0 : Int))]]).length = S.length + 1 := by simp
    refine ex_asg (ev_tup (vs := [.ref S.length, .ref (S.length + 1), .int 0]) (evs_cons (S1 := S ++ [.dk false [(.inl (x : Int), .int (0 : Int))]]) rfl (evs_cons (S1 := (S ++ [.dk false [(.inl (x : Int), .int (0 : Int))]]) ++ [.lst false [.int (x : Int)]]) ?_ (evs_cons rfl evs_nil))) (show 3 ≤ 1000000 by decide)) rfl
    rw [← el]
    exact ev_lst (evs_cons rfl evs_nil) (show 1 ≤ 1000000 by decide)
  have h0 : lev n D 0 = [x] := by
    unfold lev
    have : ∀ m, (List.range m).filter (fun b => decide (b = x)) = if x < m then [x] else [] := by
      intro m
      induction m with
      | zero => rfl
      | succ m ih =>
        rw [List.range_succ, List.filter_append, ih]
        by_cases h : m = x
        · subst h; simp
        · have h2 : (x < m + 1) ↔ (x < m) := by omega
          simp [h, h2]
    have e : (List.range n).filter (fun b => decide (D b = some 0)) = (List.range n).filter (fun b => decide (b = x)) := by
      refine List.filter_congr fun b hb => ?_
      rw [decide_eq_decide]
      exact hB.at0 b (List.mem_range.mp hb)
    rw [e, this, if_pos hB.x_lt]
  have f0 : DkAt ((S ++ [.dk false [(.inl (x : Int), .int (0 : Int))]]) ++ [.lst false [.int (x : Int)]]) S.length n (fnd n D 0) := by
    have hg : ∀ b, getN [(x, 0)] b = fnd n D 0 b := by
      intro b
      show (if x = b then some 0 else none) = _
      by_cases h : x = b
      · subst h
        rw [if_pos rfl, fnd_of hB.x_lt ((hB.at0 x hB.x_lt).mpr rfl) (Nat.le_refl _)]
      · rw [if_neg h]
        refine (fnd_none fun j hj hb => ?_).symm
        apply Nat.pos_of_ne_zero
        rintro rfl
        exact h ((hB.at0 b hb).mp hj).symm
    refine ⟨[(x, 0)], (Le.add _ _).get get_last, by simp [keysN], hg, fun b hb => ?_⟩
    rw [← hg] at hb
    by_cases q : b < n
    · exact q
    · exfalso
      apply hb
      rw [hg]
      unfold fnd
      exact if_neg q
  have g0 : ((S ++ [Rf.Obj.dk false [(.inl (x : Int), .int (0 : Int))]]) ++ [.lst false [.int (x : Int)]])[S.length + 1]? = some (.lst false ((zi (lev n D 0)).map .int)) := by
    have el : (S ++ [Rf.Obj.dk false [(.inl (x : Int), .int (0 : Int))]]).length = S.length + 1 := by simp
    rw [h0, ← el]
    exact get_last
  generalize ((S ++ [Rf.Obj.dk false [(.inl (x : Int), .int (0 : Int))]]) ++ [Rf.Obj.lst false [.int (x : Int)]]) = S1 at k0 i0 f0 g0
  obtain ⟨ρ2, S2, e2, k, z3, z4, z5, z6, rfl, kp2, f2⟩ := while_meas (test := ev (C tbl d) (.cmp .ne (.slot 3) (.lst .nil))) (body := exs (C tbl d) 200 WB) (fu := 200) (n := bb + 1 - 0)
    (fun m ρ S' => ∃ (k lv : Nat) (z5 z6 : Option Val), ρ = ER r x S.length (some (.ref lv)) (some (.int (k : Int))) z5 z6 ∧ Kp S S' ∧ DkAt S' S.length n (fnd n D k) ∧ S'[lv]? = some (.lst false ((zi (lev n D k)).map .int)) ∧ m = bb + 1 - k)
    (fun ρ S' => ∃ (k : Nat) (z3 z4 z5 z6 : Option Val), ρ = ER r x S.length z3 z4 z5 z6 ∧ Kp S S' ∧ DkAt S' S.length n (fun b => if b < n then D b else none))
    ⟨0, _, _, _, rfl, k0, f0, g0, rfl⟩ (by omega) (by
      rintro m ρ S' ⟨k, lv, z5, z6, rfl, kp, fd, gl, rfl⟩
      have t := ev_nonnil (cf := C tbl d) (a := .slot 3) (ρ := ER r x S.length (some (.ref lv)) (some (.int (k : Int))) z5 z6) (m := lv) rfl gl
      have ka := Kp.add S' [Rf.Obj.lst false (([] : List Int).map .int)]
      by_cases h : lev n D k = []
      · rw [h, decide_eq_true (show zi [] = [] from rfl)] at t
        refine .inl ⟨_, t, k, _, _, _, _, rfl, kp.trans ka, ?_⟩
        obtain ⟨l, h1, h2, h3, h4⟩ := fd.kp ka
        refine ⟨l, h1, h2, fun b => ?_, fun b hb => ?_⟩
        · rw [h3]
          by_cases hb : b < n
          · rw [fnd_end hB h hb]; exact (if_pos hb).symm
          · unfold fnd
            rw [if_neg hb]; exact (if_neg hb).symm
        · by_cases q : b < n
          · exact q
          · exact absurd (if_neg q) hb
      · have hz : ¬ zi (lev n D k) = [] := fun q => h (zi_inj (m := []) q)
        rw [decide_eq_false hz] at t
        have hk : k ≤ bb := by
          obtain ⟨b, hb⟩ := List.exists_mem_of_ne_nil _ h
          obtain ⟨h1, h2⟩ := mem_lev.mp hb
          exact hB.bd b h1 k h2
        obtain ⟨lv', y5, y6, S2, e2, kb, f2, g2⟩ := one_level (cf := C tbl d) (a5 := z5) (a6 := z6) (k := k) hB hn (hN.kp (kp.trans ka)) (fd.kp ka) (ka _ _ gl) hlen
        refine .inr ⟨_, t, _, S2, e2, bb + 1 - (k + 1), by omega, k + 1, lv', _, _, rfl, fun j o hj => ?_, f2, g2, rfl⟩
        refine kb j o (ka j o (kp j o hj)) ?_
        have := (List.getElem?_eq_some_iff.mp hj).1
        omega)
  obtain ⟨l, h1, h2, h3, h4⟩ := f2
  have hN2 := hN.kp kp2
  obtain ⟨rs, hr1, hr2, _⟩ := hN2
  obtain ⟨S3, e3, l3⟩ := lc_map (f := dTurn [7] (asg (C tbl d) (.slot 7)) (ev (C tbl d) (.k (.bl true))) (ev (C tbl d) (.mt .get (.slot 2) (.cons (.slot 7) .nil))) (ER r x S.length z3 z4 z5 z6)) (J := .rng 0 1 n) (ws := List.range n) (t := fun b : Nat => Val.int (0 + (b : Int))) (S := S2) (fun b => some (oV (D b))) its_rng (by rw [List.length_range]; omega) (by
    intro b hb S' l'
    have hb := List.mem_range.mp hb
    refine ⟨S', turn_yes rfl (ev_mt rfl (rcv_get (l'.get h1)) (evs_cons rfl evs_nil) ?_), .refl _⟩
    rw [Int.zero_add]
    have h5 : getN l b = D b := (h3 b).trans (if_pos hb)
    have h6 : dGet (.dk false (dN l)) (.int (b : Int)) = some (getK (dN l) (.inl (b : Int))) := rfl
    simp only [mtV, l'.get h1, h6, Option.map_some, get_dN, h5]
    cases D b <;> rfl)
  rw [filterMap_some, List.length_range] at e3
  have hl : biV .len [.ref r] S2 = some (.int (n : Int), S2) := by rw [len_lst hr1, List.length_map, hr2]
  exact ⟨_, (callF_at (F := DRow) hTab rfl).trans (run_ret (exs_nx i0 (exs_nx (ex_whl e2) (exs_ret (ex_ret (ev_bi (evs_cons (ev_lc (evI_rng1 (j := (n : Int)) (evs_cons (ev_bi (evs_cons rfl evs_nil) hl) evs_nil) (rng_small (by omega))) (n := n) (Int.toNat_natCast _) e3) evs_nil) (tup_lst get_last))))))), kp2.trans ((Kp.of l3).trans (.add _ _))⟩
/-- the table -/
theorem c_dist {f n0 r0 : Nat} {ts : List (Nat × Nat)} (hTab : tbl[f]? = some (DDist n0 r0)) (hTn : tbl[n0]? = some DNeigh) (hTr : tbl[r0]? = some DRow) (hT : Ties n ts) (hn : n < 64) (ht : ts.length < 10000) (D : Nat → Nat → Option Nat) (hB : ∀ x, x < n → Bfs n (nbr ts n) x bb (D x)) (hbb : bb < 150) :
    ∃ S', C tbl (d + 2) f [webV n ts] S = some (.tup ((List.range n).map fun x => rowV n (D x)), S') ∧ Kp S S' := by
  obtain ⟨r, S1, e1, k1, hN⟩ := c_near (d := d) (S := S) hTn hT (by omega) ht
  have hlen : ∀ a, a < n → (nbr ts n a).length < 10000 := fun a _ => by
    have := List.length_filter_le (fun b => decide ((a, b) ∈ ts ∨ (b, a) ∈ ts)) (List.range n)
    rw [List.length_range] at this
    show ((List.range n).filter _).length < _
    omega
  obtain ⟨ys, S2, e2, ⟨k2, hy⟩, hl⟩ := lc_acc (f := dTurn [2] (asg (C tbl (d + 1)) (.slot 2)) (ev (C tbl (d + 1)) (.k (.bl true))) (ev (C tbl (d + 1)) (.call r0 (.cons (.slot 1) (.cons (.slot 2) .nil)))) [some (webV n ts), some (.ref r), none]) (J := .rng 0 1 n) (n := n) (S := S1)
    (fun ys S' => Kp S1 S' ∧ ys = (List.range ys.length).map fun x => rowV n (D x)) (fun i => .int (0 + (i : Nat) * 1)) ⟨.refl _, rfl⟩ (fun ys S' _ _ => range_item) (by omega) (by
      rintro ys S' ⟨k, hy⟩ hlt
      obtain ⟨S3, e3, k3⟩ := c_row (d := d) (S := S') hTr (hB ys.length hlt) hn hbb (hN.kp k) hlen
      have ei : Val.int (0 + ((ys.length : Nat) : Int) * 1) = .int ((ys.length : Nat) : Int) := by
        congr 1; omega
      rw [ei]
      refine ⟨_, S3, turn_yes (ρ1 := [some (webV n ts), some (.ref r), some (.int ((ys.length : Nat) : Int))]) rfl (ev_call (evs_cons rfl (evs_cons rfl evs_nil)) e3), k.trans k3, ?_⟩
      have e2 : ∀ x : Val, (ys ++ [x]).length = ys.length + 1 := fun x => by simp
      rw [e2, List.range_succ, List.map_append, ← hy]; rfl)
  rw [hl] at hy
  rw [hy] at e2
  exact ⟨_, (callF_at (F := DDist n0 r0) hTab rfl).trans (run_ret (exs_nx (ex_asg (ev_call (evs_cons rfl evs_nil) e1) rfl) (exs_ret (ex_ret (ev_bi (evs_cons (ev_lc (evI_rng1 (j := (n : Int)) (evs_cons (ev_idx rfl rfl rfl) evs_nil) (rng_small (by omega))) (n := n) (Int.toNat_natCast _) e2) evs_nil) (tup_lst get_last)))))), k1.trans (k2.trans (.add _ _))⟩
end CG

/-! CG4: the source of numbers, picks, orders, unlike letters. -/
namespace CG
open Rf Cm
variable {tbl : List FD}
theorem s_mixed {S : Store} {l m t : Int} (h : S[3]? = some (.dk false (dk4 l m t))) (x : Int) : setV (.ref 3) (.str "mixed") (.int x) S = some (S.set 3 (.dk false (dk4 l x t))) := by
  have hk : dPut (.dk false (dk4 l m t)) (.str "mixed") (.int x) = some (.dk false (dk4 l x t)) := by
    have n11 : (("turn" : PySem.Str) = "mixed") = False := n10
    simp only [dPut, keyOf]
    rw [if_pos (show (dk4 l m t).length < PySem.sizeLine from Nat.lt_of_lt_of_le (by decide : 4 < 1000000) (le_size (Nat.le_refl _)))]
    simp [putV, dk4, getK, sk, n2, n4, n10, replK]
  simp only [setV, h, hk]
theorem c_source {f : Nat} (hTab : tbl[f]? = some DSource) {d : Nat} {ns : List Int} (hn : ns.length ≤ 63) : ∃ S', C tbl (d + 1) f [.ref 0] [.lst true (ns.map .int)] = some (.ref 3, S') ∧ SrcOk S' := by
  have h0 : ([.lst true (ns.map .int)] : Store)[0]? = some (.lst true (ns.map Val.int)) := rfl
  obtain ⟨ρ', S', e, rfl, st, z, rfl⟩ := loop_inv (set := asg (C tbl d) (.slot 2)) (body := exs (C tbl d) 200 (.cons (.asg (.slot 1) (.bin .mod (.bi .int (.cons (.bin .add (.bin .add (.bin .mul (.slot 1) (.k (.int 69069))) (.bin .mul (.slot 2) (.k (.int 31)))) (.k (.int 5))) .nil)) (.k (.int 2147483629)))) .nil))
    (J := .seq (.l 0)) (vs := ns.map .int) (ρ := [some (.ref 0), some (.int 11), none]) (S := [.lst true (ns.map .int)])
    (fun i ρ S' => S' = [.lst true (ns.map .int)] ∧ ∃ st z, ρ = [some (.ref 0), some (.int st), z]) ⟨rfl, _, _, rfl⟩ (by
      rintro i ρ S' ⟨rfl, st, z, rfl⟩
      exact its_l h0 _ (.refl _) i) (by
      rintro i v ρ S' ⟨rfl, st, z, rfl⟩ hv
      simp only [List.getElem?_map, Option.map_eq_some_iff] at hv
      obtain ⟨x, _, rfl⟩ := hv
      exact ⟨_, _, rfl, _, _, exs_nx (ex_asg (ev_bin (ev_bi (evs_cons (ev_bin (ev_bin (ev_bin rfl rfl (mul_r (by decide))) (ev_bin rfl rfl (mul_r (by decide))) rfl) rfl rfl) evs_nil) rfl) rfl (mod_ok (by decide))) rfl) exs_nil, rfl, _, _, rfl⟩)
  rw [len_map] at e
  have hT : ∀ (k : Nat) (i n : Nat), i + k = ns.length → n + k ≤ 1000000 → lcGo (dTurn [2] (asg (C tbl d) (.slot 2)) (ev (C tbl d) (.k (.bl true))) (ev (C tbl d) (.bi .abs (.cons (.slot 2) .nil))) [some (.ref 0), some (.int st), z]) (.seq (.l 0)) (k + 1) i n [.lst true (ns.map .int)] = some ((ns.drop i).map fun x => Val.int (absI x), [.lst true (ns.map .int)]) := by
    intro k
    induction k with
    | zero =>
      intro i n hi hn
      have q : itAt (.seq (.l 0)) i [.lst true (ns.map .int)] = some ((ns.map Val.int)[i]?) := rfl
      rw [List.getElem?_eq_none (by simp; omega)] at q
      simp only [lcGo, q]
      rw [List.drop_eq_nil_of_le (by omega)]
      rfl
    | succ k ih =>
      intro i n hi hn
      have q : itAt (.seq (.l 0)) i [.lst true (ns.map .int)] = some ((ns.map Val.int)[i]?) := rfl
      have hlt : i < ns.length := by omega
      rw [List.getElem?_map, List.getElem?_eq_getElem hlt] at q
      unfold lcGo
      rw [q]
      dsimp only [Option.map_some]
      rw [turn_yes (y := .int (absI ns[i])) (S1 := [.lst true (ns.map .int)]) rfl rfl, bnd_some]
      dsimp only
      rw [if_pos (Nat.lt_of_lt_of_le (show n < 1000000 by omega) (le_size (Nat.le_refl _))), ih (i + 1) (n + 1) (by omega) (by omega), bnd_some, List.drop_eq_getElem_cons hlt]
      rfl
  have e2 := hT ns.length 0 0 (by omega) (by omega)
  rw [List.drop_zero] at e2
  have e3 : ev (C tbl d) (.lc (.bi .abs (.cons (.slot 2) .nil)) (.slot 2) (.ex (.slot 0)) (.k (.bl true)) [2]) [some (.ref 0), some (.int st), z] [.lst true (ns.map .int)] = some (.ref 1, [.lst true (ns.map .int), .lst false (ns.map fun x => Val.int (absI x))]) := ev_lc (J := .seq (.l 0)) (S1 := [.lst true (ns.map .int)]) (evI_ex (v := .ref 0) (sr := .l 0) rfl rfl) (n := ns.length) (len_map ns) e2
  have rv : ev (C tbl d) (.rev (.lc (.bi .abs (.cons (.slot 2) .nil)) (.slot 2) (.ex (.slot 0)) (.k (.bl true)) [2])) [some (.ref 0), some (.int st), z] [.lst true (ns.map .int)] =
      some (.ref 2, [.lst true (ns.map .int), .lst false (ns.map fun x => Val.int (absI x)), .lst false (ns.map fun x => Val.int (absI x)).reverse]) := by
    show bnd (ev (C tbl d) (.lc (.bi .abs (.cons (.slot 2) .nil)) (.slot 2) (.ex (.slot 0)) (.k (.bl true)) [2]) [some (.ref 0), some (.int st), z] [.lst true (ns.map .int)]) _ = _
    rw [e3, bnd_some]
    show newL (ns.map fun x => Val.int (absI x)).reverse _ = _
    rw [newL_ok (by simp; omega)]; rfl
  have dp : ∀ (v : Int) (S : Store), dispV [.str "cells", .str "left", .str "mixed", .str "turn"] [.ref 2, .int 1, .int v, .int 0] S = some (.ref S.length, S ++ [.dk false (dk4 1 v 0)]) := by
    intro v S
    have hk : dispK [.str "cells", .str "left", .str "mixed", .str "turn"] [.ref 2, .int 1, .int v, .int 0] = some (dk4 1 v 0) := rfl
    simp only [dispV, hk]
    rw [if_pos (show (dk4 1 v 0).length ≤ 15 by show 4 ≤ 15; decide)]
    simp [dk4, putV, getK, sk, n1, n2, n3, n4, n5, n6]
  have run : C tbl (d + 1) f [.ref 0] [.lst true (ns.map .int)] = some (.ref 3, [.lst true (ns.map .int), .lst false (ns.map fun x => Val.int (absI x)), .lst false (ns.map fun x => Val.int (absI x)).reverse] ++ [.dk false (dk4 1 st 0)]) := by
    refine (callF_at hTab rfl).trans (run_ret (exs_nx (ex_asg rfl rfl) (exs_nx (ex_loop (evI_ex rfl rfl) (len_map ns) e) (exs_ret (ex_ret ?_)))))
    show bnd (evs (C tbl d) (.cons (.rev (.lc (.bi .abs (.cons (.slot 2) .nil)) (.slot 2) (.ex (.slot 0)) (.k (.bl true)) [2])) (.cons (.k (.int 1)) (.cons (.slot 1) (.cons (.k (.int 0)) .nil)))) [some (.ref 0), some (.int st), z] [.lst true (ns.map .int)]) _ = _
    rw [evs_cons rv (evs_cons rfl (evs_cons rfl (evs_cons rfl evs_nil))), bnd_some, dp]; rfl
  refine ⟨_, run, (ns.map absI).reverse, 1, st, 0, rfl, ?_, by simp; exact hn⟩
  show some (Rf.Obj.lst false (ns.map fun x => Val.int (absI x)).reverse) = _
  rw [List.map_reverse, List.map_map]; rfl
/-! ### picks -/
def tPG : X := (.and (.cmp .gt (.slot 1) (.k (.int 1))) (.and (.cmp .lt (.idx (.slot 0) (.k (.str "left"))) (.k (.int 2))) (.cmp .gt (.bi .len (.cons (.idx (.slot 0) (.k (.str "cells"))) .nil)) (.k (.int 0)))))
def bPG : B := .cons (.asg (.sub (.slot 0) (.k (.str "left"))) (.mt .pop (.idx (.slot 0) (.k (.str "cells"))) .nil)) .nil
theorem pg_loop {d : Nat} {most : Int} {S : Store} (h : SrcOk S) : ∃ S', whileGo (ev (C tbl d) tPG) (exs (C tbl d) 200 bPG) 200 [some (.ref 3), some (.int most), none, none] S = some (.nx, [some (.ref 3), some (.int most), none, none], S') ∧ Fr S S' := by
  obtain ⟨cs, l, m, t, h3, h2, hl⟩ := h
  obtain ⟨ρ', S', e, rfl, q⟩ := while_meas (test := ev (C tbl d) tPG) (body := exs (C tbl d) 200 bPG)
    (fun n ρ S' => ρ = [some (.ref 3), some (.int most), none, none] ∧ Fr S S' ∧ ∃ (cs : List Int) (l m t : Int), S'[3]? = some (.dk false (dk4 l m t)) ∧ S'[2]? = some (.lst false (cs.map .int)) ∧ cs.length ≤ 63 ∧ cs.length = n)
    (fun ρ S' => ρ = [some (.ref 3), some (.int most), none, none] ∧ Fr S S') (fu := 200) (n := cs.length) (ρ := [some (.ref 3), some (.int most), none, none]) (S := S)
    ⟨rfl, .le ⟨cs, l, m, t, h3, h2, hl⟩ (.refl S), cs, l, m, t, h3, h2, hl, rfl⟩ (by omega) (by
      rintro n ρ S' ⟨rfl, fr, cs, l, m, t, h3, h2, hl, rfl⟩
      have c0 : ev (C tbl d) (.cmp .gt (.slot 1) (.k (.int 1))) [some (.ref 3), some (.int most), none, none] S' = some (.bl (decide (1 < most)), S') := ev_cmp (x := .int most) (y := .int 1) rfl rfl rfl
      have c1 : ev (C tbl d) (.cmp .lt (.idx (.slot 0) (.k (.str "left"))) (.k (.int 2))) [some (.ref 3), some (.int most), none, none] S' = some (.bl (decide (l < 2)), S') := ev_cmp (ev_idx rfl rfl (g_left h3)) rfl rfl
      have c2 : ev (C tbl d) (.cmp .gt (.bi .len (.cons (.idx (.slot 0) (.k (.str "cells"))) .nil)) (.k (.int 0))) [some (.ref 3), some (.int most), none, none] S' = some (.bl (decide ((0 : Int) < ((cs.map Val.int).length : Nat))), S') := ev_cmp (ev_bi (evs_cons (ev_idx rfl rfl (g_cells h3)) evs_nil) (len_lst h2)) rfl rfl
      by_cases hm : 1 < most
      · rw [decide_eq_true hm] at c0
        by_cases hl2 : l < 2
        · rw [decide_eq_true hl2] at c1
          by_cases hc : 0 < cs.length
          · rw [len_map, decide_eq_true (by omega)] at c2
            refine .inr ⟨S', ev_and1 c0 (ev_and1 c1 c2), ?_⟩
            have hx : (cs.map Val.int)[(cs.map Val.int).length - 1]? = some (.int cs[cs.length - 1]) := by
              rw [len_map, List.getElem?_map, List.getElem?_eq_getElem (by omega)]; rfl
            have hp : mtV .pop (.ref 2) [] S' = some (.int cs[cs.length - 1], S'.set 2 (.lst false (cs.map Val.int).dropLast)) := by simp only [mtV, h2, hx]
            have h3' : (S'.set 2 (.lst false (cs.map Val.int).dropLast))[3]? = some (.dk false (dk4 l m t)) := by rw [set_ne (by decide)]; exact h3
            have h2' : ((S'.set 2 (.lst false (cs.map Val.int).dropLast)).set 3 (.dk false (dk4 cs[cs.length - 1] m t)))[2]? = some (.lst false (cs.dropLast.map .int)) := by
              rw [set_ne (by decide), set_at h2, List.map_dropLast]
            refine ⟨_, _, exs_nx (ex_asg (ev_mt (ev_idx rfl rfl (g_cells h3)) (rcv_lst h2) evs_nil hp) (asg_sub rfl rfl (s_left h3' _))) exs_nil, cs.dropLast.length, by rw [List.length_dropLast]; omega, rfl, ⟨⟨cs.dropLast, _, m, t, set_at h3', h2', by rw [List.length_dropLast]; omega⟩, fun k o k2 k3 e => ?_⟩, cs.dropLast, _, m, t, set_at h3', h2', by rw [List.length_dropLast]; omega, rfl⟩
            rw [set_ne (Ne.symm k3), set_ne (Ne.symm k2)]
            exact fr.keep k o k2 k3 e
          · rw [len_map, decide_eq_false (by omega)] at c2
            exact .inl ⟨S', ev_and1 c0 (ev_and1 c1 c2), rfl, fr⟩
        · rw [decide_eq_false hl2] at c1
          exact .inl ⟨S', ev_and1 c0 (ev_and0 c1), rfl, fr⟩
      · rw [decide_eq_false hm] at c0
        exact .inl ⟨S', ev_and0 c0, rfl, fr⟩)
  exact ⟨S', e, q⟩
theorem max1 {most : Int} {S : Store} (h : 1 ≤ most) : biV .max [.int 1, .int most] S = some (.int most, S) := by
  show some (Val.int (if most > 1 then most else 1), S) = _
  congr 2
  split <;> congr 1 <;> omega
theorem c_pg {f : Nat} (hTab : tbl[f]? = some DPickG) {d : Nat} {most : Int} {S : Store} (h : SrcOk S) (h1 : 1 ≤ most) (hm : most < 1073741824) : ∃ r S', C tbl (d + 1) f [.ref 3, .int most] S = some (.int r, S') ∧ 0 ≤ r ∧ r < most ∧ Fr S S' := by
  obtain ⟨S1, e1, fr⟩ := pg_loop (d := d) (most := most) h
  obtain ⟨cs, l, m, t, e3, e2, hl⟩ := fr.src
  have mp : (0 : Int) < most := by omega
  have i3 := ex_whl e1
  have i4 : ex (C tbl d) 200 (.asg (.slot 2) (.idx (.slot 0) (.k (.str "left")))) [some (.ref 3), some (.int most), none, none] S1 = some (.nx, [some (.ref 3), some (.int most), some (.int l), none], S1) := ex_asg (ev_idx rfl rfl (g_left e3)) rfl
  have c1 : ev (C tbl d) (.cmp .lt (.slot 1) (.k (.int 2))) [some (.ref 3), some (.int most), some (.int l), none] S1 = some (.bl (decide (most < 2)), S1) := ev_cmp (x := .int most) (y := .int 2) rfl rfl rfl
  have c2 : ev (C tbl d) (.cmp .gt (.slot 2) (.k (.int 1))) [some (.ref 3), some (.int most), some (.int l), none] S1 = some (.bl (decide (1 < l)), S1) := ev_cmp (x := .int l) (y := .int 1) rfl rfl rfl
  by_cases hb : most < 2 ∨ 1 < l
  · have tt : ev (C tbl d) (.or (.cmp .lt (.slot 1) (.k (.int 2))) (.cmp .gt (.slot 2) (.k (.int 1)))) [some (.ref 3), some (.int most), some (.int l), none] S1 = some (.bl true, S1) := by
      by_cases h2 : most < 2
      · rw [decide_eq_true h2] at c1
        exact ev_or1 c1
      · rw [decide_eq_false h2] at c1
        rw [decide_eq_true (hb.resolve_left h2)] at c2
        exact ev_or0 c1 c2
    have i5 : ex (C tbl d) 200 (bnth DPickG.body 2) [some (.ref 3), some (.int most), some (.int l), none] S1 = some (.ret (.int (l % most)), [some (.ref 3), some (.int most), some (.int l), none], S1.set 3 (.dk false (dk4 (l / most) m t))) :=
      ex_if tt (exs_nx (ex_asg (ev_bin rfl (ev_bi (evs_cons rfl (evs_cons rfl evs_nil)) (max1 h1)) (fdiv_ok mp hm)) (asg_sub rfl rfl (s_left e3 _))) (exs_ret (ex_ret (ev_bin (ev_bi (evs_cons rfl evs_nil) rfl) (ev_bi (evs_cons rfl (evs_cons rfl evs_nil)) (max1 h1)) (mod_ok mp)))))
    exact ⟨_, _, (callF_at hTab rfl).trans (run_ret (exs_nx i3 (exs_nx i4 (exs_ret i5)))), Int.emod_nonneg _ (by omega), Int.emod_lt_of_pos _ mp, fr_left fr e3 e2 hl⟩
  · have h2 : ¬ most < 2 := fun q => hb (.inl q)
    have h3 : ¬ 1 < l := fun q => hb (.inr q)
    rw [decide_eq_false h2] at c1
    rw [decide_eq_false h3] at c2
    have i5 : ex (C tbl d) 200 (bnth DPickG.body 2) [some (.ref 3), some (.int most), some (.int l), none] S1 = some (.nx, [some (.ref 3), some (.int most), some (.int l), none], S1) := ex_else (ev_or0 c1 c2) exs_nil
    have fr2 : Fr S (S1.set 3 (.dk false (dk4 l m (t + 1)))) := fr_left fr e3 e2 hl
    have e3' : (S1.set 3 (.dk false (dk4 l m (t + 1))))[3]? = some (.dk false (dk4 l m (t + 1))) := set_at e3
    have e2' : (S1.set 3 (.dk false (dk4 l m (t + 1))))[2]? = some (.lst false (cs.map .int)) := by rw [set_ne (by decide)]; exact e2
    have i6 : ex (C tbl d) 200 (bnth DPickG.body 3) [some (.ref 3), some (.int most), some (.int l), none] S1 =
        some (.nx, [some (.ref 3), some (.int most), some (.int l), none], S1.set 3 (.dk false (dk4 l m (t + 1)))) := ex_asg (ev_bin (ev_idx rfl rfl (g_turn e3)) rfl rfl) (asg_sub rfl rfl (s_turn e3 _))
    generalize S1.set 3 (.dk false (dk4 l m (t + 1))) = S2 at fr2 e3' e2' i6
    have i8 : ∃ u, 0 ≤ u ∧ u < 998244353 ∧ ex (C tbl d) 200 (bnth DPickG.body 4) [some (.ref 3), some (.int most), some (.int l), none] S2 = some (.nx, [some (.ref 3), some (.int most), some (.int l), some (.int u)], S2) :=
      ⟨_, Int.emod_nonneg _ (by decide), Int.emod_lt_of_pos _ (by decide), ex_asg (ev_bin (ev_bi (evs_cons (ev_bin (ev_idx rfl rfl (g_mixed e3')) (ev_bin (ev_idx rfl rfl (g_turn e3')) rfl (mul_r (by decide))) rfl) evs_nil) rfl) rfl (mod_ok (by decide))) rfl⟩
    obtain ⟨u, u0, u1, i8⟩ := i8
    have us : small64 u = true := by simp [small64]; omega
    have i9 : ∃ z, ex (C tbl d) 200 (bnth DPickG.body 5) [some (.ref 3), some (.int most), some (.int l), some (.int u)] S2 = some (.nx, [some (.ref 3), some (.int most), some (.int l), some (.int z)], S2) :=
      ⟨_, ex_asg (ev_bin (ev_bi (evs_cons (ev_bin (ev_bin rfl rfl (mul_l us)) (ev_bin (ev_idx rfl rfl (g_turn e3')) rfl (mul_r (by decide))) rfl) evs_nil) rfl) rfl (mod_ok (by decide))) rfl⟩
    obtain ⟨z, i9⟩ := i9
    have i10 : ex (C tbl d) 200 (bnth DPickG.body 6) [some (.ref 3), some (.int most), some (.int l), some (.int z)] S2 = some (.nx, [some (.ref 3), some (.int most), some (.int l), some (.int z)], S2.set 3 (.dk false (dk4 l z (t + 1)))) :=
      ex_asg rfl (asg_sub rfl rfl (s_mixed e3' _))
    have fr3 : Fr S (S2.set 3 (.dk false (dk4 l z (t + 1)))) := ⟨⟨cs, l, z, t + 1, set_at e3', by rw [set_ne (by decide)]; exact e2', hl⟩, fun k o k2 k3 e => by rw [set_ne (Ne.symm k3)]; exact fr2.keep k o k2 k3 e⟩
    have i11 : ex (C tbl d) 200 (bnth DPickG.body 7) [some (.ref 3), some (.int most), some (.int l), some (.int z)] (S2.set 3 (.dk false (dk4 l z (t + 1)))) = some (.ret (.int (z / 16 % most)), [some (.ref 3), some (.int most), some (.int l), some (.int z)], S2.set 3 (.dk false (dk4 l z (t + 1)))) :=
      ex_ret (ev_bin (ev_bi (evs_cons (ev_bin rfl rfl (fdiv_ok (by decide) (by decide))) evs_nil) rfl) rfl (mod_ok mp))
    exact ⟨_, _, (callF_at hTab rfl).trans (run_ret (exs_nx i3 (exs_nx i4 (exs_nx i5 (exs_nx i6 (exs_nx i8 (exs_nx i9 (exs_nx i10 (exs_ret i11))))))))), Int.emod_nonneg _ (by omega), Int.emod_lt_of_pos _ mp, fr3⟩
theorem c_pgn {f : Nat} (hTab : tbl[f]? = some DPickG) {d m : Nat} {S : Store} (h : SrcOk S) (h1 : 1 ≤ m) (hm : m < 1073741824) : ∃ (k : Nat) (S' : Store), k < m ∧ C tbl (d + 1) f [.ref 3, .int (m : Int)] S = some (.int (k : Int), S') ∧ Fr S S' := by
  obtain ⟨r, S', e, h0, hl, fr⟩ := c_pg (d := d) hTab (most := (m : Int)) h (by omega) (by omega)
  refine ⟨r.toNat, S', by omega, ?_, fr⟩
  rw [e, Int.toNat_of_nonneg h0]
/-- _law_of(source, list) -/
theorem c_of {f p : Nat} (hTab : tbl[f]? = some (DOf p)) (hp : tbl[p]? = some DPickG) {d r : Nat} {S : Store} {k : Bool} {xs : List Val} (h : SrcOk S) (hr : S[r]? = some (.lst k xs)) (hx : xs ≠ []) (hl : xs.length < 1000000) (hr2 : r ≠ 2) (hr3 : r ≠ 3) :
    ∃ v S', C tbl (d + 2) f [.ref 3, .ref r] S = some (v, S') ∧ v ∈ xs ∧ Fr S S' := by
  have h1 : 1 ≤ xs.length := List.length_pos_iff.mpr hx
  obtain ⟨j, S1, hj, e1, f1⟩ := c_pgn (d := d) hp (m := xs.length) h h1 (by omega)
  have g := f1.keep r _ hr2 hr3 hr
  refine ⟨xs[j], S1, (callF_at (F := DOf p) hTab rfl).trans (run_ret (exs_ret (ex_ret (ev_idx rfl (ev_call (evs_cons rfl (evs_cons (ev_bi (evs_cons rfl evs_nil) (len_lst hr)) evs_nil)) e1) (ix_lst g (at_nat (List.getElem?_eq_getElem hj))))))), List.getElem_mem _, f1⟩
theorem ixn_nat {n j : Nat} (h : j < n) : L2.ixN n (j : Int) = some j := by
  unfold L2.ixN
  rw [if_pos (by omega), if_pos (by omega)]
  simp
theorem erase_perm {α : Type} {l : List α} {j : Nat} (h : j < l.length) : (l[j] :: l.eraseIdx j).Perm l := by
  rw [List.eraseIdx_eq_take_drop_succ]
  have e : l = l.take j ++ l[j] :: l.drop (j + 1) := by
    rw [← List.drop_eq_getElem_cons h, List.take_append_drop]
  have p : (l[j] :: (l.take j ++ l.drop (j + 1))).Perm (l.take j ++ l[j] :: l.drop (j + 1)) := List.perm_middle.symm
  rw [← e] at p
  exact p
/-- _law_mixed(source, list): some order of it -/
theorem c_mixed {f p : Nat} (hTab : tbl[f]? = some (DMixed p)) (hp : tbl[p]? = some DPickG) {d r : Nat} {S : Store} {k : Bool} {xs : List Val} (h : SrcOk S) (hr : S[r]? = some (.lst k xs)) (hl : xs.length < 100000) :
    ∃ ys q S', C tbl (d + 2) f [.ref 3, .ref r] S = some (.ref q, S') ∧ S'[q]? = some (.lst false ys) ∧ ys.Perm xs ∧ Fr S S' ∧ S.length ≤ q := by
  have h4 : 4 ≤ S.length := by
    obtain ⟨cs, l, m, t, h3, _, _⟩ := id h
    exact (List.getElem?_eq_some_iff.mp h3).1
  have e0 : ev (C tbl (d + 1)) (.bi .list (.cons (.slot 1) .nil)) [some (.ref 3), some (.ref r), none, none] S = some (.ref S.length, S ++ [.lst false xs]) := by
    refine ev_bi (evs_cons rfl evs_nil) ?_
    simp only [biV, hr]
    rw [newL_ok (by omega)]
  have f0 := Fr.le h (Le.add S [Rf.Obj.lst false xs])
  obtain ⟨ys, S2, e2, ⟨rest, f2, g2, p2⟩, hl2⟩ := lc_acc (f := dTurn [3] (asg (C tbl (d + 1)) (.slot 3)) (ev (C tbl (d + 1)) (.k (.bl true))) (ev (C tbl (d + 1)) (.mt .pop (.slot 2) (.cons (.call p (.cons (.slot 0) (.cons (.bi .len (.cons (.slot 2) .nil)) .nil))) .nil))) [some (.ref 3), some (.ref r), some (.ref S.length), none]) (J := .rng 0 1 xs.length) (n := xs.length) (S := S ++ [.lst false xs])
    (fun ys S' => ∃ rest : List Val, Fr S S' ∧ S'[S.length]? = some (.lst false rest) ∧ (ys ++ rest).Perm xs) (fun i => .int (0 + (i : Nat) * 1)) ⟨xs, f0, get_last, by simp⟩ (fun ys S' _ _ => range_item) (by omega) (by
      rintro ys S' ⟨rest, fr, g, pm⟩ hlt
      have hrl : rest.length = xs.length - ys.length := by
        have := pm.length_eq
        rw [List.length_append] at this
        omega
      obtain ⟨j, S3, hj, e3, f3⟩ := c_pgn (d := d) hp (m := rest.length) fr.src (by omega) (by omega)
      have g3 := f3.keep S.length _ (by omega) (by omega) g
      have fr3 := fr.trans f3
      have hji : L2.ixN rest.length (j : Int) = some j := ixn_nat hj
      have hpop : mtV .pop (.ref S.length) [.int (j : Int)] S3 = some (rest[j], S3.set S.length (.lst false (rest.eraseIdx j))) := by
        simp only [mtV, g3, hji, List.getElem?_eq_getElem hj]
        rw [if_pos (by simp; omega)]
      refine ⟨rest[j], S3.set S.length (.lst false (rest.eraseIdx j)), turn_yes (ρ1 := [some (.ref 3), some (.ref r), some (.ref S.length), some (.int (0 + ((ys.length : Nat) : Int) * 1))]) rfl (ev_mt rfl (rcv_lst g) (evs_cons (ev_call (evs_cons rfl (evs_cons (ev_bi (evs_cons rfl evs_nil) (len_lst g)) evs_nil)) e3) evs_nil) hpop), rest.eraseIdx j, ⟨?_, fun k o k2 k3 hk => ?_⟩, set_at g3, ?_⟩
      · obtain ⟨cs, l, m, t, s3, s2, sl⟩ := fr3.src
        exact ⟨cs, l, m, t, by rw [set_ne (by omega)]; exact s3, by rw [set_ne (by omega)]; exact s2, sl⟩
      · have hkl := (List.getElem?_eq_some_iff.mp hk).1
        rw [set_ne (by omega)]
        exact fr3.keep k o k2 k3 hk
      · refine List.Perm.trans ?_ pm
        rw [List.append_assoc]
        refine List.Perm.append_left ys ?_
        exact erase_perm hj)
  have hr0 : rest = [] := by
    have := p2.length_eq
    rw [List.length_append, hl2] at this
    exact List.eq_nil_of_length_eq_zero (by omega)
  subst hr0
  rw [List.append_nil] at p2
  have hS2 : S.length ≤ S2.length := by
    have := (List.getElem?_eq_some_iff.mp g2).1
    omega
  exact ⟨ys, S2.length, S2 ++ [.lst false ys], (callF_at (F := DMixed p) hTab rfl).trans (run_ret (exs_nx (ex_asg e0 rfl) (exs_ret (ex_ret (ev_lc (evI_rng1 (j := (xs.length : Int)) (evs_cons (ev_bi (evs_cons rfl evs_nil) (len_lst get_last)) evs_nil) (rng_small (by omega))) (n := xs.length) (Int.toNat_natCast _) e2))))), get_last, p2, f2.trans (Fr.le f2.src (.add _ _)), hS2⟩
/-! ### unlike letters -/
def ham (u w : List Int) : Nat := ((u.zip w).filter fun p => !decide (p.1 = p.2)).length
theorem c_apart {f : Nat} (hTab : tbl[f]? = some DApart) {d : Nat} {u w : List Int} {S : Store} (hl : u.length < 1000) : Has (C tbl (d + 1) f [tv u, tv w] S) S (.int (ham u w : Nat)) := by
  obtain ⟨S2, e2, l2⟩ := lc_map (f := dTurn [2, 3] (asg (C tbl d) (.tup (.cons (.slot 2) (.cons (.slot 3) .nil)))) (ev (C tbl d) (.cmp .ne (.slot 2) (.slot 3))) (ev (C tbl d) (.k (.int 1))) [some (tv u), some (tv w), none, none])
    (J := .zip [.t (u.map .int), .t (w.map .int)]) (ws := u.zip w) (t := fun p => Val.tup [.int p.1, .int p.2]) (S := S) (fun p => if (!decide (p.1 = p.2)) = true then some (Val.int 1) else none) (by rw [← zipW]; exact its_zip2 its_t its_t) (by simp; omega) (by
      intro p _ S' _
      have t : ev (C tbl d) (.cmp .ne (.slot 2) (.slot 3)) [some (tv u), some (tv w), some (.int p.1), some (.int p.2)] S' = some (.bl (!decide (p.1 = p.2)), S') := ev_cmp (x := .int p.1) (y := .int p.2) rfl rfl ne_int
      by_cases h : p.1 = p.2
      · rw [decide_eq_true h] at t ⊢
        exact ⟨S', turn_f rfl t, .refl _⟩
      · rw [decide_eq_false h] at t ⊢
        exact ⟨S', turn_t rfl t rfl, .refl _⟩)
  rw [filterMap_if] at e2
  exact ⟨_, (callF_at (F := DApart) hTab rfl).trans (run_ret (exs_ret (ex_ret (ev_bi (evs_cons (ev_lc (evI_zip (evs_cons rfl (evs_cons rfl evs_nil)) rfl) (show min (u.map Val.int).length (w.map Val.int).length = (u.zip w).length by simp) e2) evs_nil) ((len_lst get_last).trans (by rw [List.length_map]; rfl)))))), l2.trans (.add _ _)⟩
end CG

/-! CG5: lots of words that keep their distances. No program here. -/
namespace CG
/-! ### unlike letters -/
def dl (x y : Int) : Nat := if x = y then 0 else 1
theorem ham_nil (w : List Int) : ham [] w = 0 := rfl
theorem ham_cons {x y : Int} {u w : List Int} : ham (x :: u) (y :: w) = dl x y + ham u w := by
  unfold ham dl
  rw [List.zip_cons_cons, List.filter_cons]
  by_cases h : x = y
  · simp [h]
  · simp [h]; omega
theorem ham_self : ∀ u : List Int, ham u u = 0
  | [] => rfl
  | x :: u => by rw [ham_cons, ham_self u]; simp [dl]
theorem ham_sym : ∀ u w : List Int, ham u w = ham w u
  | [], w => by cases w <;> rfl
  | x :: u, [] => rfl
  | x :: u, y :: w => by
    rw [ham_cons, ham_cons, ham_sym u w]
    unfold dl
    by_cases h : x = y
    · simp [h]
    · have h' : ¬ y = x := fun q => h q.symm
      simp [h, h']
theorem ham_zero : ∀ {u w : List Int}, u.length = w.length → ham u w = 0 → u = w
  | [], [], _, _ => rfl
  | [], _ :: _, h, _ => by cases h
  | _ :: _, [], h, _ => by cases h
  | x :: u, y :: w, hl, h => by
    rw [ham_cons] at h
    unfold dl at h
    by_cases e : x = y
    · rw [e, ham_zero (u := u) (w := w) (by simpa using hl) (by omega)]
    · rw [if_neg e] at h; omega
theorem ham_le : ∀ u w : List Int, ham u w ≤ u.length
  | [], w => Nat.le_refl _
  | x :: u, [] => Nat.zero_le _
  | x :: u, y :: w => by
    have := ham_le u w
    rw [ham_cons, List.length_cons]
    unfold dl
    split <;> omega
theorem ham_tri : ∀ {u w v : List Int}, u.length = w.length → w.length = v.length → ham u v ≤ ham u w + ham w v
  | [], [], [], _, _ => Nat.le_refl _
  | x :: u, y :: w, z :: v, h1, h2 => by
    have := ham_tri (u := u) (w := w) (v := v) (by simpa using h1) (by simpa using h2)
    rw [ham_cons, ham_cons, ham_cons]
    unfold dl
    by_cases a : x = y
    · subst a
      simp only [if_true]
      omega
    · rw [if_neg a]
      split <;> omega
  | [], _ :: _, _, h, _ => by cases h
  | _ :: _, [], _, h, _ => by cases h
  | _, [], _ :: _, _, h => by cases h
  | _, _ :: _, [], _, h => by cases h
/-- a word between others has the letters that they share -/
theorem ham_between : ∀ {u w v : List Int}, u.length = w.length → w.length = v.length → ham u w + ham w v = ham u v → ∀ i : Nat, u[i]? = v[i]? → w[i]? = u[i]?
  | [], [], [], _, _, _, i, _ => rfl
  | x :: u, y :: w, z :: v, h1, h2, h, i, hi => by
    have l1 : u.length = w.length := by simpa using h1
    have l2 : w.length = v.length := by simpa using h2
    have t := ham_tri l1 l2
    rw [ham_cons, ham_cons, ham_cons] at h
    cases i with
    | zero =>
      simp only [List.getElem?_cons_zero, Option.some.injEq] at hi ⊢
      subst hi
      unfold dl at h
      by_cases a : x = y
      · exact a.symm
      · rw [if_neg a, if_neg (fun q => a q.symm), if_pos rfl] at h
        omega
    | succ i =>
      simp only [List.getElem?_cons_succ] at hi ⊢
      refine ham_between l1 l2 ?_ i hi
      unfold dl at h
      by_cases a : x = y
      · subst a
        simp only [if_true] at h
        omega
      · rw [if_neg a] at h
        by_cases b : y = z
        · rw [if_pos b] at h
          split at h <;> omega
        · rw [if_neg b] at h
          split at h <;> omega
  | [], _ :: _, _, h, _, _, _, _ => by cases h
  | _ :: _, [], _, h, _, _, _, _ => by cases h
  | _, [], _ :: _, _, h, _, _, _ => by cases h
  | _, _ :: _, [], _, h, _, _, _ => by cases h
theorem ham_snoc {x y : Int} : ∀ {u w : List Int}, u.length = w.length → ham (u ++ [x]) (w ++ [y]) = ham u w + dl x y
  | [], [], _ => by
    show ham (x :: []) (y :: []) = _
    rw [ham_cons]
    show dl x y + 0 = 0 + dl x y
    omega
  | a :: u, b :: w, h => by
    rw [List.cons_append, List.cons_append, ham_cons, ham_cons, ham_snoc (u := u) (w := w) (by simpa using h)]
    omega
  | [], _ :: _, h => by cases h
  | _ :: _, [], h => by cases h
/-! ### lots that keep their distances -/
structure Iso (d : Nat) (W : List (List Int)) : Prop where
  len : ∀ w ∈ W, w.length = d
  nd : W.Nodup
  step : ∀ u ∈ W, ∀ v ∈ W, u ≠ v → ∃ w ∈ W, ham u w = 1 ∧ ham w v + 1 = ham u v
theorem Iso.perm {d : Nat} {W W' : List (List Int)} (h : Iso d W) (p : W'.Perm W) : Iso d W' :=
  ⟨fun w hw => h.len w (p.mem_iff.mp hw), p.nodup_iff.mpr h.nd, fun u hu v hv hne => let ⟨w, h1, h2⟩ := h.step u (p.mem_iff.mp hu) v (p.mem_iff.mp hv) hne; ⟨w, p.mem_iff.mpr h1, h2⟩⟩
theorem iso_one : Iso 0 [[]] := ⟨fun w hw => by rw [List.mem_singleton.mp hw]; rfl, by simp, fun u hu v hv hne => absurd ((List.mem_singleton.mp hu).trans (List.mem_singleton.mp hv).symm) hne⟩
/-- a part that keeps its distances by itself -/
structure Sub (W P : List (List Int)) : Prop where
  sub : ∀ w ∈ P, w ∈ W
  nd : P.Nodup
  step : ∀ u ∈ P, ∀ v ∈ P, u ≠ v → ∃ w ∈ P, ham u w = 1 ∧ ham w v + 1 = ham u v
def expd (W P : List (List Int)) : List (List Int) := W.map (fun w => w ++ [0]) ++ P.map (fun w => w ++ [1])
theorem mem_expd {W P : List (List Int)} {w : List Int} : w ∈ expd W P ↔ (∃ u ∈ W, w = u ++ [0]) ∨ ∃ u ∈ P, w = u ++ [1] := by
  unfold expd
  rw [List.mem_append, List.mem_map, List.mem_map]
  constructor
  · rintro (⟨u, h, e⟩ | ⟨u, h, e⟩)
    · exact .inl ⟨u, h, e.symm⟩
    · exact .inr ⟨u, h, e.symm⟩
  · rintro (⟨u, h, e⟩ | ⟨u, h, e⟩)
    · exact .inl ⟨u, h, e.symm⟩
    · exact .inr ⟨u, h, e.symm⟩
theorem snoc_inj {u w : List Int} {x y : Int} (h : u ++ [x] = w ++ [y]) : u = w ∧ x = y := by
  have := List.append_inj' h rfl
  exact ⟨this.1, by simpa using this.2⟩
theorem map_nd {W : List (List Int)} {x : Int} (h : W.Nodup) : (W.map fun w => w ++ [x]).Nodup :=
  List.nodup_iff_pairwise_ne.mpr (List.pairwise_map.mpr (h.imp fun hne q => hne (snoc_inj q).1))
theorem Iso.expd {d : Nat} {W P : List (List Int)} (h : Iso d W) (s : Sub W P) : Iso (d + 1) (expd W P) := by
  have hl : ∀ u ∈ W, ∀ v ∈ W, u.length = v.length := fun u hu v hv => (h.len u hu).trans (h.len v hv).symm
  refine ⟨fun w hw => ?_, ?_, ?_⟩
  · rcases mem_expd.mp hw with ⟨u, hu, rfl⟩ | ⟨u, hu, rfl⟩
    · rw [List.length_append, h.len u hu]; rfl
    · rw [List.length_append, h.len u (s.sub u hu)]; rfl
  · unfold CG.expd
    rw [List.nodup_append]
    refine ⟨map_nd h.nd, map_nd s.nd, ?_⟩
    rintro a ha b hb rfl
    obtain ⟨u, _, e1⟩ := List.mem_map.mp ha
    obtain ⟨v, _, e2⟩ := List.mem_map.mp hb
    have := (snoc_inj (e1.trans e2.symm)).2
    omega
  · intro a ha b hb hne
    rcases mem_expd.mp ha with ⟨u, hu, rfl⟩ | ⟨u, hu, rfl⟩
    · rcases mem_expd.mp hb with ⟨v, hv, rfl⟩ | ⟨v, hv, rfl⟩
      · obtain ⟨w, hw, e1, e2⟩ := h.step u hu v hv fun q => hne (by rw [q])
        refine ⟨w ++ [0], mem_expd.mpr (.inl ⟨w, hw, rfl⟩), ?_, ?_⟩
        · rw [ham_snoc (hl u hu w hw), e1]; rfl
        · rw [ham_snoc (hl w hw v hv), ham_snoc (hl u hu v hv)]
          show _ + 0 + 1 = _ + 0
          omega
      · have hv' := s.sub v hv
        by_cases e : u = v
        · subst e
          refine ⟨u ++ [1], mem_expd.mpr (.inr ⟨u, hv, rfl⟩), ?_, ?_⟩
          · rw [ham_snoc rfl, ham_self]; rfl
          · rw [ham_self, ham_snoc rfl, ham_self]; rfl
        · obtain ⟨w, hw, e1, e2⟩ := h.step u hu v hv' e
          refine ⟨w ++ [0], mem_expd.mpr (.inl ⟨w, hw, rfl⟩), ?_, ?_⟩
          · rw [ham_snoc (hl u hu w hw), e1]; rfl
          · rw [ham_snoc (hl w hw v hv'), ham_snoc (hl u hu v hv')]
            omega
    · have hu' := s.sub u hu
      rcases mem_expd.mp hb with ⟨v, hv, rfl⟩ | ⟨v, hv, rfl⟩
      · refine ⟨u ++ [0], mem_expd.mpr (.inl ⟨u, hu', rfl⟩), ?_, ?_⟩
        · rw [ham_snoc rfl, ham_self]; rfl
        · rw [ham_snoc (hl u hu' v hv), ham_snoc (hl u hu' v hv)]; rfl
      · obtain ⟨w, hw, e1, e2⟩ := s.step u hu v hv fun q => hne (by rw [q])
        have hw' := s.sub w hw
        have hv' := s.sub v hv
        refine ⟨w ++ [1], mem_expd.mpr (.inr ⟨w, hw, rfl⟩), ?_, ?_⟩
        · rw [ham_snoc (hl u hu' w hw'), e1]; rfl
        · rw [ham_snoc (hl w hw' v hv'), ham_snoc (hl u hu' v hv')]
          show _ + 0 + 1 = _ + 0
          omega
/-! ### hulls: the words that share the letters that all of some share -/
def alikeL (d : Nat) (s0 : List Int) (some_ : List (List Int)) : List Nat := (List.range d).filter fun i => some_.all fun w => decide (w[i]? = s0[i]?)
def hullL (W : List (List Int)) (s0 : List Int) (al : List Nat) : List (List Int) := W.filter fun w => decide ((al.filter fun i => !decide (w[i]? = s0[i]?)) = [])
theorem mem_hull {W : List (List Int)} {s0 w : List Int} {al : List Nat} : w ∈ hullL W s0 al ↔ w ∈ W ∧ ∀ i ∈ al, w[i]? = s0[i]? := by
  unfold hullL
  rw [List.mem_filter, decide_eq_true_eq, List.filter_eq_nil_iff]
  simp
theorem hull_sub {d : Nat} {W : List (List Int)} {s0 : List Int} {al : List Nat} (h : Iso d W) : Sub W (hullL W s0 al) := by
  refine ⟨fun w hw => (mem_hull.mp hw).1, h.nd.filter _, fun u hu v hv hne => ?_⟩
  obtain ⟨hu1, hu2⟩ := mem_hull.mp hu
  obtain ⟨hv1, hv2⟩ := mem_hull.mp hv
  obtain ⟨w, hw, e1, e2⟩ := h.step u hu1 v hv1 hne
  refine ⟨w, mem_hull.mpr ⟨hw, fun i hi => ?_⟩, e1, e2⟩
  rw [ham_between ((h.len u hu1).trans (h.len w hw).symm) ((h.len w hw).trans (h.len v hv1).symm) (by omega) i ((hu2 i hi).trans (hv2 i hi).symm)]
  exact hu2 i hi
/-! ### distances in the web of a lot -/
/-- ties of a lot: places of words with one unlike letter -/
def adjW (W : List (List Int)) (a b : Nat) : Bool := match W[a]?, W[b]? with
  | some u, some w => decide (ham u w = 1)
  | _, _ => false
def distW (W : List (List Int)) (a b : Nat) : Option Nat := match W[a]?, W[b]? with
  | some u, some w => some (ham u w)
  | _, _ => none
theorem distW_at {W : List (List Int)} {a b : Nat} {u w : List Int} (h1 : W[a]? = some u) (h2 : W[b]? = some w) : distW W a b = some (ham u w) := by unfold distW; rw [h1, h2]
theorem adjW_at {W : List (List Int)} {a b : Nat} {u w : List Int} (h1 : W[a]? = some u) (h2 : W[b]? = some w) : adjW W a b = decide (ham u w = 1) := by unfold adjW; rw [h1, h2]
theorem adjW_sym (W : List (List Int)) (a b : Nat) : adjW W a b = adjW W b a := by
  unfold adjW
  cases W[a]? <;> cases W[b]? <;> first | rfl | (simp only [ham_sym])
theorem nd_get {α : Type} {W : List α} {a b : Nat} {u : α} (h : W.Nodup) (h1 : W[a]? = some u) (h2 : W[b]? = some u) : a = b := by
  have l1 := (List.getElem?_eq_some_iff.mp h1).1
  exact (List.getElem?_inj l1 h).mp (h1.trans h2.symm)
theorem iso_bfs {d : Nat} {W : List (List Int)} (h : Iso d W) {x : Nat} (hx : x < W.length) {near : Nat → List Nat} (hn : ∀ a, a < W.length → ∀ b, b ∈ near a ↔ b < W.length ∧ adjW W a b = true) : Bfs W.length near x d (distW W x) := by
  have gx : W[x]? = some W[x] := List.getElem?_eq_getElem hx
  have lx := h.len _ (List.getElem_mem hx)
  generalize W[x] = wx at gx lx
  have at_ : ∀ b, b < W.length → ∃ w, W[b]? = some w ∧ w ∈ W ∧ w.length = d := fun b hb => ⟨_, List.getElem?_eq_getElem hb, List.getElem_mem hb, h.len _ (List.getElem_mem hb)⟩
  refine ⟨hx, fun b hb => ?_, fun a ha b hb => ((hn a ha b).mp hb).1, fun a ha b hb k hk => ?_, fun b hb k hk => ?_, fun b hb j hj => ?_⟩
  · obtain ⟨w, g, hw, lw⟩ := at_ b hb
    rw [distW_at gx g]
    constructor
    · intro q
      have : wx = w := ham_zero (lx.trans lw.symm) (Option.some.inj q)
      subst this
      exact nd_get h.nd g gx
    · rintro rfl
      rw [gx] at g
      cases g
      rw [ham_self]
  · obtain ⟨hb1, hb2⟩ := (hn a ha b).mp hb
    obtain ⟨u, gu, _, lu⟩ := at_ a ha
    obtain ⟨w, gw, _, lw⟩ := at_ b hb1
    rw [adjW_at gu gw, decide_eq_true_eq] at hb2
    rw [distW_at gx gu] at hk
    have := Option.some.inj hk
    refine ⟨_, distW_at gx gw, ?_⟩
    have t := ham_tri (u := wx) (w := u) (v := w) (by omega) (by omega)
    omega
  · obtain ⟨w, gw, hw, lw⟩ := at_ b hb
    rw [distW_at gx gw] at hk
    have hk := Option.some.inj hk
    have hne : w ≠ wx := by
      rintro rfl
      rw [ham_self] at hk; omega
    obtain ⟨u, hu, e1, e2⟩ := h.step w hw wx (List.mem_of_getElem? gx) hne
    obtain ⟨a, ha, gu⟩ := List.getElem_of_mem hu
    have gu' : W[a]? = some u := by rw [List.getElem?_eq_getElem ha, gu]
    refine ⟨a, ha, ?_, (hn a ha b).mpr ⟨hb, ?_⟩⟩
    · rw [distW_at gx gu', ham_sym]
      congr 1
      rw [ham_sym w wx] at e2
      omega
    · rw [adjW_at gu' gw, decide_eq_true_eq, ham_sym]; exact e1
  · obtain ⟨w, gw, _, _⟩ := at_ b hb
    rw [distW_at gx gw] at hj
    rw [← Option.some.inj hj]
    exact Nat.le_trans (ham_le _ _) (by omega)
end CG

/-! CG6: hulls of words, the web of a lot, its table. -/
namespace CG
open Rf Cm
variable {tbl : List FD} {d : Nat} {S : Store}
/-! ### dicts by letters -/
theorem getK_repl {κ : Type} [DecidableEq κ] (k b : κ) (v : Val) : ∀ l : List (κ × Val), getK (replK k v l) b = if b = k then (getK l b).map fun _ => v else getK l b
  | [] => by simp [replK, getK]
  | (k', w) :: r => by
    have ih := getK_repl k b v r
    unfold replK
    by_cases h : k' = k
    · rw [if_pos h]
      unfold getK
      by_cases hb : k' = b
      · rw [if_pos hb, if_pos hb, if_pos (hb.symm.trans h)]; rfl
      · rw [if_neg hb, if_neg hb, ih]
    · rw [if_neg h]
      unfold getK
      by_cases hb : k' = b
      · rw [if_pos hb, if_pos hb, if_neg fun q => h (hb.trans q)]
      · rw [if_neg hb, if_neg hb, ih]
theorem getK_app {κ : Type} [DecidableEq κ] (k b : κ) (v : Val) : ∀ l : List (κ × Val), getK (l ++ [(k, v)]) b = (getK l b).or (if b = k then some v else none)
  | [] => by
    show (if k = b then some v else none) = _
    by_cases h : k = b
    · rw [if_pos h, if_pos h.symm]; rfl
    · rw [if_neg h, if_neg fun q => h q.symm]; rfl
  | (k', w) :: r => by
    rw [List.cons_append]
    unfold getK
    by_cases h : k' = b
    · rw [if_pos h, if_pos h]; rfl
    · rw [if_neg h, if_neg h, getK_app k b v r]
theorem getK_put {κ : Type} [DecidableEq κ] (l : List (κ × Val)) (k b : κ) (v : Val) : getK (putV l k v) b = if b = k then some v else getK l b := by
  unfold putV
  cases h : getK l k with
  | none =>
    rw [if_neg (by simp), getK_app]
    by_cases hb : b = k
    · rw [if_pos hb, if_pos hb, hb, h]; rfl
    · rw [if_neg hb, if_neg hb, Option.or_none]
  | some w =>
    rw [if_pos (by simp), getK_repl]
    by_cases hb : b = k
    · rw [if_pos hb, if_pos hb, hb, h]; rfl
    · rw [if_neg hb, if_neg hb]
def kz (ks : List Int) : List (L2.Key × Val) := ks.map fun k => (.inl k, .int 0)
theorem kz_has : ∀ (ks : List Int) (acc : List (L2.Key × Val)) (b : L2.Key), ((getK acc b).isSome = true ∨ ∃ k ∈ ks, b = .inl k) → (getK (mergeV acc (kz ks)) b).isSome = true
  | [], acc, b, h => by
    rcases h with h | ⟨k, hk, _⟩
    · exact h
    · cases hk
  | k :: ks, acc, b, h => by
    show (getK (mergeV (putV acc (.inl k) (.int 0)) (kz ks)) b).isSome = true
    refine kz_has ks _ b ?_
    rw [getK_put]
    by_cases e : b = .inl k
    · rw [if_pos e]; exact .inl rfl
    · rw [if_neg e]
      rcases h with h | ⟨k', hk, e'⟩
      · exact .inl h
      · rcases List.mem_cons.mp hk with q | q
        · rw [q] at e'; exact absurd e' e
        · exact .inr ⟨k', q, e'⟩
theorem kz_same {k : Int} : ∀ {ks : List Int}, (∀ x ∈ ks, x = k) → mergeV [(.inl k, .int 0)] (kz ks) = [(.inl k, .int 0)]
  | [], _ => rfl
  | x :: ks, h => by
    have e := h x List.mem_cons_self
    subst e
    have e2 : putV [((.inl x : L2.Key), Val.int 0)] (.inl x) (.int 0) = [(.inl x, .int 0)] := by simp [putV, getK, replK]
    show mergeV (putV [((.inl x : L2.Key), Val.int 0)] (.inl x) (.int 0)) (kz ks) = _
    rw [e2]
    exact kz_same fun y hy => h y (List.mem_cons_of_mem _ hy)
/-- one key just if all are one -/
theorem kz_one (k : Int) (ks : List Int) : (mergeV [] (kz (k :: ks))).length = 1 ↔ ∀ x ∈ ks, x = k := by
  constructor
  · intro h x hx
    match hm : mergeV [] (kz (k :: ks)), h with
    | [(k0, v0)], _ =>
      have key : ∀ b : L2.Key, (getK [(k0, v0)] b).isSome = true → b = k0 := by
        intro b hb
        unfold getK at hb
        by_cases e : k0 = b
        · exact e.symm
        · rw [if_neg e] at hb; cases hb
      have h1 := key _ (hm ▸ kz_has (k :: ks) [] (.inl k) (.inr ⟨k, List.mem_cons_self, rfl⟩))
      have h2 := key _ (hm ▸ kz_has (k :: ks) [] (.inl x) (.inr ⟨x, List.mem_cons_of_mem _ hx, rfl⟩))
      exact Sum.inl.inj (h2.trans h1.symm)
  · intro h
    show (mergeV (putV [] (.inl k) (.int 0)) (kz ks)).length = 1
    have e2 : putV ([] : List (L2.Key × Val)) (.inl k) (.int 0) = [(.inl k, .int 0)] := by simp [putV, getK]
    rw [e2, kz_same h]; rfl
theorem pairs_kz : ∀ ks : List Int, mapO pairV (ks.map fun k => Val.tup [.int k, .int 0]) = some (kz ks)
  | [] => rfl
  | k :: ks => by
    rw [List.map_cons]
    unfold mapO
    rw [pairs_kz ks]; rfl
theorem ev_isnil {cf : CF} {a : X} {ρ : Rf.Env} {S S1 : Store} {m : Nat} {k : Bool} {l : List Int} (h : ev cf a ρ S = some (.ref m, S1)) (g : S1[m]? = some (.lst k (l.map .int))) : ev cf (.cmp .eq a (.lst .nil)) ρ S = some (.bl (decide (l = [])), S1 ++ [.lst false (([] : List Int).map .int)]) :=
  ev_cmp h (ev_lst evs_nil (show 0 ≤ 1000000 by decide)) (eqV_lst ((Le.add _ _).get g) get_last)
/-! ### hulls -/
def lt0 (w : List Int) (i : Nat) : Int := w[i]?.getD 0
theorem ix_lt {w : List Int} {i : Nat} (h : i < w.length) {S : Store} : ixV (tv w) (.int (i : Int)) S = some (.int (lt0 w i)) := by
  show L2.atI (w.map Val.int) (i : Int) = _
  refine at_nat ?_
  rw [List.getElem?_map, lt0, List.getElem?_eq_getElem h]; rfl
theorem lt0_eq {u w : List Int} {i : Nat} (h1 : i < u.length) (h2 : i < w.length) : lt0 u i = lt0 w i ↔ u[i]? = w[i]? := by
  unfold lt0
  rw [List.getElem?_eq_getElem h1, List.getElem?_eq_getElem h2]
  simp
theorem c_hullw {f : Nat} (hTab : tbl[f]? = some DHullW) {wr sr dd : Nat} {k1 k2 : Bool} {W ss : List (List Int)} {s0 : List Int} (hw : S[wr]? = some (.lst k1 (lv W))) (hs : S[sr]? = some (.lst k2 (lv (s0 :: ss)))) (lw : ∀ w ∈ W, w.length = dd) (ls : ∀ w ∈ s0 :: ss, w.length = dd) (hd : dd < 1000) (hW : W.length < 10000) (hss : ss.length < 1000) :
    ∃ r S', C tbl (d + 1) f [.ref wr, .ref sr] S = some (.ref r, S') ∧ Le S S' ∧ S'[r]? = some (.lst false (lv (hullL W s0 (alikeL dd s0 ss)))) := by
  have l0 := ls s0 List.mem_cons_self
  have ix0 : ∀ {S' : Store}, Le S S' → ixV (.ref sr) (.int 0) S' = some (tv s0) := fun l => ix_lst (l.get hs) (at_nat (i := 0) rfl)
  -- the letters that all share
  obtain ⟨S2, e2, l2⟩ := lc_map (f := dTurn [3] (asg (C tbl d) (.slot 3)) (ev (C tbl d) (.cmp .eq (.bi .len (.cons (.bi .dict (.cons (.lc (.tup (.cons (.idx (.slot 4) (.slot 3)) (.cons (.k (.int 0)) .nil))) (.slot 4) (.ex (.slot 1)) (.k (.bl true)) [4]) .nil)) .nil)) (.k (.int 1)))) (ev (C tbl d) (.slot 3)) [some (.ref wr), some (.ref sr), none, none, none])
    (J := .rng 0 1 dd) (ws := List.range dd) (t := fun i : Nat => Val.int (0 + (i : Int))) (S := S) (fun i => if (ss.all fun w => decide (w[i]? = s0[i]?)) = true then some (Val.int (i : Int)) else none) its_rng (by rw [List.length_range]; omega) (by
      intro i hi S' l
      have hi := List.mem_range.mp hi
      obtain ⟨S3, e3, l3⟩ := lc_map (f := dTurn [4] (asg (C tbl d) (.slot 4)) (ev (C tbl d) (.k (.bl true))) (ev (C tbl d) (.tup (.cons (.idx (.slot 4) (.slot 3)) (.cons (.k (.int 0)) .nil)))) [some (.ref wr), some (.ref sr), none, some (.int (i : Int)), none])
        (J := .seq (.l sr)) (ws := s0 :: ss) (t := tv) (S := S') (fun w => some (Val.tup [.int (lt0 w i), .int 0])) (its_l (l.get hs)) (by rw [List.length_cons]; omega) (by
          intro w hw S'' _
          exact ⟨S'', turn_yes (ρ1 := [some (.ref wr), some (.ref sr), none, some (.int (i : Int)), some (tv w)]) rfl (ev_tup (evs_cons (ev_idx rfl rfl (ix_lt (by rw [ls w hw]; exact hi))) (evs_cons rfl evs_nil)) (show 2 ≤ 1000000 by decide)), .refl _⟩)
      rw [filterMap_some] at e3
      have em : (s0 :: ss).map (fun w => Val.tup [.int (lt0 w i), .int 0]) = ((s0 :: ss).map fun w => lt0 w i).map fun k => Val.tup [.int k, .int 0] := by rw [List.map_map]; rfl
      rw [em] at e3
      have e4 := ev_lc (elt := .tup (.cons (.idx (.slot 4) (.slot 3)) (.cons (.k (.int 0)) .nil))) (t := .slot 4) (cnd := .k (.bl true)) (own := [4]) (evI_ex (a := .slot 1) (cf := C tbl d) (ρ := [some (.ref wr), some (.ref sr), none, some (.int (i : Int)), none]) rfl (src_l (l.get hs))) (n := (s0 :: ss).length) (by rw [itLen_l (l.get hs), lv_len]) e3
      have hdk : biV .dict [.ref S3.length] (S3 ++ [.lst false (((s0 :: ss).map fun w => lt0 w i).map fun k => Val.tup [.int k, .int 0])]) = some (.ref (S3.length + 1), (S3 ++ [.lst false (((s0 :: ss).map fun w => lt0 w i).map fun k => Val.tup [.int k, .int 0])]) ++ [.dk false (mergeV [] (kz ((s0 :: ss).map fun w => lt0 w i)))]) := by
        simp only [biV, get_last, pairs_kz, List.length_append, List.length_singleton]
      have hg : ((S3 ++ [Rf.Obj.lst false (((s0 :: ss).map fun w => lt0 w i).map fun k => Val.tup [.int k, .int 0])]) ++ [Rf.Obj.dk false (mergeV [] (kz ((s0 :: ss).map fun w => lt0 w i)))])[S3.length + 1]? = some (.dk false (mergeV [] (kz ((s0 :: ss).map fun w => lt0 w i)))) := by
        have el : (S3 ++ [Rf.Obj.lst false (((s0 :: ss).map fun w => lt0 w i).map fun k => Val.tup [.int k, .int 0])]).length = S3.length + 1 := by simp
        rw [← el]; exact get_last
      have lf : Le S' ((S3 ++ [Rf.Obj.lst false (((s0 :: ss).map fun w => lt0 w i).map fun k => Val.tup [.int k, .int 0])]) ++ [Rf.Obj.dk false (mergeV [] (kz ((s0 :: ss).map fun w => lt0 w i)))]) := l3.trans ((Le.add _ _).trans (.add _ _))
      generalize ((S3 ++ [Rf.Obj.lst false (((s0 :: ss).map fun w => lt0 w i).map fun k => Val.tup [.int k, .int 0])]) ++ [Rf.Obj.dk false (mergeV [] (kz ((s0 :: ss).map fun w => lt0 w i)))]) = SF at hdk hg lf
      have hln : biV .len [.ref (S3.length + 1)] SF = some (.int ((mergeV [] (kz ((s0 :: ss).map fun w => lt0 w i))).length : Nat), SF) := by simp only [biV, hg]
      have t : ev (C tbl d) (.cmp .eq (.bi .len (.cons (.bi .dict (.cons (.lc (.tup (.cons (.idx (.slot 4) (.slot 3)) (.cons (.k (.int 0)) .nil))) (.slot 4) (.ex (.slot 1)) (.k (.bl true)) [4]) .nil)) .nil)) (.k (.int 1))) [some (.ref wr), some (.ref sr), none, some (.int (i : Int)), none] S' = some (.bl (ss.all fun w => decide (w[i]? = s0[i]?)), SF) := by
        refine ev_cmp (ev_bi (evs_cons (ev_bi (evs_cons e4 evs_nil) hdk) evs_nil) hln) rfl ?_
        rw [eq_int]
        congr 1
        have h1 := kz_one (lt0 s0 i) (ss.map fun w => lt0 w i)
        have h2 : (∀ x ∈ ss.map (fun w => lt0 w i), x = lt0 s0 i) ↔ ∀ w ∈ ss, w[i]? = s0[i]? := by
          simp only [List.mem_map, forall_exists_index, and_imp, forall_apply_eq_imp_iff₂]
          constructor
          · intro h w hw
            exact (lt0_eq (by rw [ls w (List.mem_cons_of_mem _ hw)]; exact hi) (by rw [l0]; exact hi)).mp (h w hw)
          · intro h w hw
            exact (lt0_eq (by rw [ls w (List.mem_cons_of_mem _ hw)]; exact hi) (by rw [l0]; exact hi)).mpr (h w hw)
        rw [Bool.eq_iff_iff, decide_eq_true_eq, List.all_eq_true]
        simp only [decide_eq_true_eq]
        rw [← h2, ← h1, List.map_cons]
        omega
      have hset : asg (C tbl d) (.slot 3) (.int (0 + (i : Int))) (wipeE [some (.ref wr), some (.ref sr), none, none, none] [3]) S' = some ([some (.ref wr), some (.ref sr), none, some (.int (i : Int)), none], S') := by rw [Int.zero_add]; rfl
      by_cases h : (ss.all fun w => decide (w[i]? = s0[i]?)) = true
      · rw [if_pos h]
        rw [h] at t
        exact ⟨SF, turn_t hset t rfl, lf⟩
      · rw [if_neg h]
        rw [Bool.eq_false_iff.mpr h] at t
        exact ⟨SF, turn_f hset t, lf⟩)
  rw [filterMap_if, List.length_range] at e2
  have hal : ((List.range dd).filter fun i => ss.all fun w => decide (w[i]? = s0[i]?)).map (fun i : Nat => Val.int (i : Int)) = (zi (alikeL dd s0 ss)).map .int := by
    unfold zi alikeL
    rw [List.map_map]; rfl
  rw [hal] at e2
  have i0 : ex (C tbl d) 200 (bnth DHullW.body 0) [some (.ref wr), some (.ref sr), none, none, none] S = some (.nx, [some (.ref wr), some (.ref sr), some (.ref S2.length), none, none], S2 ++ [.lst false ((zi (alikeL dd s0 ss)).map .int)]) :=
    ex_asg (ev_lc (evI_rng1 (j := (dd : Int)) (evs_cons (ev_bi (evs_cons (ev_idx rfl rfl (ix0 (.refl _))) evs_nil) (by
      show some (Val.int ((s0.map Val.int).length : Nat), S) = _
      rw [List.length_map, l0])) evs_nil) (rng_small (by omega))) (n := dd) (Int.toNat_natCast _) e2) rfl
  have lA := l2.trans (Le.add S2 [Rf.Obj.lst false ((zi (alikeL dd s0 ss)).map .int)])
  have gA : (S2 ++ [Rf.Obj.lst false ((zi (alikeL dd s0 ss)).map .int)])[S2.length]? = some (.lst false ((zi (alikeL dd s0 ss)).map .int)) := get_last
  generalize (S2 ++ [Rf.Obj.lst false ((zi (alikeL dd s0 ss)).map .int)]) = SA at i0 lA gA
  generalize S2.length = ar at i0 gA
  have hai : ∀ i ∈ alikeL dd s0 ss, i < dd := fun i hi => List.mem_range.mp (List.mem_filter.mp hi).1
  obtain ⟨S4, e4, l4⟩ := lc_map (f := dTurn [4] (asg (C tbl d) (.slot 4)) (ev (C tbl d) (.cmp .eq (.lc (.slot 3) (.slot 3) (.ex (.slot 2)) (.cmp .ne (.idx (.slot 4) (.slot 3)) (.idx (.idx (.slot 1) (.k (.int 0))) (.slot 3))) [3]) (.lst .nil))) (ev (C tbl d) (.slot 4)) [some (.ref wr), some (.ref sr), some (.ref ar), none, none])
    (J := .seq (.l wr)) (ws := W) (t := tv) (S := SA) (fun w => if (decide (((alikeL dd s0 ss).filter fun i => !decide (w[i]? = s0[i]?)) = [])) = true then some (tv w) else none) (its_l (lA.get hw)) (by omega) (by
      intro w hwm S' l
      have lw' := lw w hwm
      obtain ⟨S5, e5, l5⟩ := lc_map (f := dTurn [3] (asg (C tbl d) (.slot 3)) (ev (C tbl d) (.cmp .ne (.idx (.slot 4) (.slot 3)) (.idx (.idx (.slot 1) (.k (.int 0))) (.slot 3)))) (ev (C tbl d) (.slot 3)) [some (.ref wr), some (.ref sr), some (.ref ar), none, some (tv w)])
        (J := .seq (.l ar)) (ws := alikeL dd s0 ss) (t := fun i : Nat => Val.int (i : Int)) (S := S') (fun i => if (!decide (w[i]? = s0[i]?)) = true then some (Val.int (i : Int)) else none) (by
          have := its_l (l.get gA)
          unfold zi at this
          rwa [List.map_map] at this) (by
          have := List.length_filter_le (fun i => ss.all fun w => decide (w[i]? = s0[i]?)) (List.range dd)
          rw [List.length_range] at this
          show ((List.range dd).filter _).length ≤ _
          omega) (by
          intro i hi S'' l'
          have hid := hai i hi
          have t : ev (C tbl d) (.cmp .ne (.idx (.slot 4) (.slot 3)) (.idx (.idx (.slot 1) (.k (.int 0))) (.slot 3))) [some (.ref wr), some (.ref sr), some (.ref ar), some (.int (i : Int)), some (tv w)] S'' = some (.bl (!decide (w[i]? = s0[i]?)), S'') := by
            refine ev_cmp (ev_idx rfl rfl (ix_lt (by omega))) (ev_idx (ev_idx rfl rfl (ix0 (lA.trans (l.trans l')))) rfl (ix_lt (by omega))) ?_
            rw [ne_int]
            congr 2
            rw [decide_eq_decide]
            exact lt0_eq (by omega) (by omega)
          by_cases h : (!decide (w[i]? = s0[i]?)) = true
          · rw [if_pos h]
            rw [h] at t
            exact ⟨S'', turn_t rfl t rfl, .refl _⟩
          · rw [if_neg h]
            rw [Bool.eq_false_iff.mpr h] at t
            exact ⟨S'', turn_f rfl t, .refl _⟩)
      rw [filterMap_if] at e5
      have em : ((alikeL dd s0 ss).filter fun i => !decide (w[i]? = s0[i]?)).map (fun i : Nat => Val.int (i : Int)) = (zi ((alikeL dd s0 ss).filter fun i => !decide (w[i]? = s0[i]?))).map .int := by
        unfold zi; rw [List.map_map]; rfl
      rw [em] at e5
      have e6 := ev_lc (elt := .slot 3) (t := .slot 3) (cnd := .cmp .ne (.idx (.slot 4) (.slot 3)) (.idx (.idx (.slot 1) (.k (.int 0))) (.slot 3))) (own := [3]) (evI_ex (a := .slot 2) (cf := C tbl d) (ρ := [some (.ref wr), some (.ref sr), some (.ref ar), none, some (tv w)]) rfl (src_l (l.get gA))) (n := (alikeL dd s0 ss).length) (by rw [itLen_l (l.get gA), List.length_map, zi_len]) e5
      have t := ev_isnil e6 get_last
      have ez : decide (zi ((alikeL dd s0 ss).filter fun i => !decide (w[i]? = s0[i]?)) = []) = decide (((alikeL dd s0 ss).filter fun i => !decide (w[i]? = s0[i]?)) = []) := by
        rw [decide_eq_decide]
        constructor
        · exact fun q => zi_inj (m := []) q
        · intro q; rw [q]; rfl
      rw [ez] at t
      have lf := l5.trans ((Le.add S5 [Rf.Obj.lst false ((zi ((alikeL dd s0 ss).filter fun i => !decide (w[i]? = s0[i]?))).map .int)]).trans (.add _ [Rf.Obj.lst false (([] : List Int).map .int)]))
      by_cases h : (decide (((alikeL dd s0 ss).filter fun i => !decide (w[i]? = s0[i]?)) = [])) = true
      · rw [if_pos h]
        rw [h] at t
        exact ⟨_, turn_t rfl t rfl, lf⟩
      · rw [if_neg h]
        rw [Bool.eq_false_iff.mpr h] at t
        exact ⟨_, turn_f rfl t, lf⟩)
  rw [filterMap_if] at e4
  exact ⟨S4.length, _, (callF_at (F := DHullW) hTab rfl).trans (run_ret (exs_nx i0 (exs_ret (ex_ret (ev_lc (evI_ex rfl (src_l (lA.get hw))) (n := W.length) (by rw [itLen_l (lA.get hw), lv_len]) e4))))), lA.trans (l4.trans (.add _ _)), get_last⟩
end CG

/-! CG7: lots of words drawn, their webs, tables. -/
namespace CG
open Rf Cm
variable {tbl : List FD} {d : Nat} {S : Store}
theorem perm_of_map {α β : Type} {f : α → β} {l m : List β} (h : l.Perm m) : ∀ {n : List α}, m = n.map f → ∃ n' : List α, l = n'.map f ∧ n'.Perm n := by
  induction h with
  | nil => rintro n h; exact ⟨[], rfl, by rw [List.map_eq_nil_iff.mp h.symm]⟩
  | cons x _ ih =>
    rintro n h
    cases n with
    | nil => cases h
    | cons a n =>
      rw [List.map_cons] at h
      injection h with h1 h2
      obtain ⟨n', e, p⟩ := ih h2
      exact ⟨a :: n', by rw [e, h1]; rfl, p.cons a⟩
  | swap x y l =>
    rintro n h
    match n, h with
    | [], h => cases h
    | [a], h => cases h
    | a :: b :: n, h =>
      rw [List.map_cons, List.map_cons] at h
      injection h with h1 h2
      injection h2 with h2 h3
      exact ⟨b :: a :: n, by rw [h1, h2, h3]; rfl, .swap a b n⟩
  | trans _ _ ih1 ih2 =>
    rintro n h
    obtain ⟨n1, e1, p1⟩ := ih2 h
    obtain ⟨n2, e2, p2⟩ := ih1 e1
    exact ⟨n2, e2, p2.trans p1⟩
theorem src_len4 {S : Store} (h : SrcOk S) : 4 ≤ S.length := by
  obtain ⟨cs, l, m, t, h3, _, _⟩ := h
  exact (List.getElem?_eq_some_iff.mp h3).1
theorem _root_.Cm.Fr.le2 {S S' S'' : Store} (f : Fr S S') (l : Le S' S'') : Fr S S'' := f.trans (Fr.le f.src l)
theorem _root_.Cm.Fr.kp2 {S S' S'' : Store} (f : Fr S S') (l : Kp S' S'') : Fr S S'' := f.trans (l.fr f.src)
/-- words drawn from a lot -/
theorem some_words {o p : Nat} (ho : tbl[o]? = some (DOf p)) (hp : tbl[p]? = some DPickG) {ρ : Rf.Env} {wr n : Nat} {k : Bool} {W : List (List Int)} {i : Nat} (hs : SrcOk S) (hw : S[wr]? = some (.lst k (lv W))) (hW : W ≠ []) (hl : W.length < 10000) (hr2 : wr ≠ 2) (hr3 : wr ≠ 3) (hn : n < 1000)
    {tg : T} {own : List Nat} (hset : ∀ (v : Val) (S : Store), ∃ ρ1 : Rf.Env, asg (C tbl (d + 2)) tg v (wipeE ρ own) S = some (ρ1, S) ∧ ρ1[0]? = some (some (.ref 3)) ∧ ρ1[i]? = some (some (.ref wr))) :
    ∃ ss S', lcGo (dTurn own (asg (C tbl (d + 2)) tg) (ev (C tbl (d + 2)) (.k (.bl true))) (ev (C tbl (d + 2)) (.call o (.cons (.slot 0) (.cons (.slot i) .nil)))) ρ) (.rng 0 1 n) (n + 1) 0 0 S = some (lv ss, S') ∧ Fr S S' ∧ ss.length = n ∧ ∀ s ∈ ss, s ∈ W := by
  obtain ⟨ys, S', e, ⟨f, ss, hy, hm⟩, hyl⟩ := lc_acc (f := dTurn own (asg (C tbl (d + 2)) tg) (ev (C tbl (d + 2)) (.k (.bl true))) (ev (C tbl (d + 2)) (.call o (.cons (.slot 0) (.cons (.slot i) .nil)))) ρ) (J := .rng 0 1 n) (n := n) (S := S)
    (fun ys S' => Fr S S' ∧ ∃ ss : List (List Int), ys = lv ss ∧ ∀ s ∈ ss, s ∈ W) (fun i => .int (0 + (i : Nat) * 1)) ⟨Fr.le hs (.refl _), [], rfl, fun s h => by cases h⟩ (fun ys S' _ _ => range_item) (by omega) (by
      rintro ys S' ⟨f, ss, rfl, hm⟩ hlt
      have g := f.keep wr _ hr2 hr3 hw
      obtain ⟨ρ1, h1, h2, h3⟩ := hset (.int (0 + (((lv ss).length : Nat) : Int) * 1)) S'
      obtain ⟨v, S2, e2, hv, f2⟩ := c_of (d := d) ho hp f.src g (by
        intro q
        exact hW (List.map_eq_nil_iff.mp q)) (by rw [lv_len]; omega) hr2 hr3
      obtain ⟨w, hw', rfl⟩ := List.mem_map.mp hv
      have s0 : ev (C tbl (d + 2)) (.slot 0) ρ1 S' = some (.ref 3, S') := by show (match ρ1[0]? with | some (some v) => some (v, S') | _ => none) = _; rw [h2]
      have s1 : ev (C tbl (d + 2)) (.slot i) ρ1 S' = some (.ref wr, S') := by show (match ρ1[i]? with | some (some v) => some (v, S') | _ => none) = _; rw [h3]
      refine ⟨tv w, S2, turn_yes h1 (ev_call (evs_cons s0 (evs_cons s1 evs_nil)) e2), f.trans f2, ss ++ [w], by rw [lv_app]; rfl, fun s hs => ?_⟩
      rcases List.mem_append.mp hs with h | h
      · exact hm s h
      · rw [List.mem_singleton.mp h]; exact hw')
  subst hy
  rw [lv_len] at hyl
  exact ⟨ss, S', e, f, hyl, hm⟩
/-- words with a letter more -/
theorem more_letter {cf : CF} {x : Int} {wr i j : Nat} {k : Bool} {W : List (List Int)} {ρ : Rf.Env} {tg : T} (hw : S[wr]? = some (.lst k (lv W))) (hl : W.length < 10000) (hlen : ∀ w ∈ W, w.length < 900) (hi : ρ[i]? = some (some (.ref wr)))
    (hset : ∀ (v : Val) (S : Store), ∃ ρ1 : Rf.Env, asg cf tg v (wipeE ρ [j]) S = some (ρ1, S) ∧ ρ1[j]? = some (some v)) :
    ev cf (.lc (.bin .add (.slot j) (.tup (.cons (.k (.int x)) .nil))) tg (.ex (.slot i)) (.k (.bl true)) [j]) ρ S = some (.ref S.length, S ++ [.lst false (lv (W.map fun w => w ++ [x]))]) := by
  obtain ⟨ys, S2, e, ⟨rfl, hy⟩, hyl⟩ := lc_acc (f := dTurn [j] (asg cf tg) (ev cf (.k (.bl true))) (ev cf (.bin .add (.slot j) (.tup (.cons (.k (.int x)) .nil)))) ρ) (J := .seq (.l wr)) (n := W.length) (S := S)
    (fun ys S' => S' = S ∧ ys = lv ((W.take ys.length).map fun w => w ++ [x])) (fun i => tv (W[i]?.getD [])) ⟨rfl, by simp [lv]⟩ (by
      rintro ys S' ⟨rfl, _⟩ hle
      simp only [itAt, srcAt, hw]
      congr 1
      by_cases h : ys.length < W.length
      · rw [if_pos h, lv, List.getElem?_map, List.getElem?_eq_getElem h]; rfl
      · rw [if_neg h, List.getElem?_eq_none (by rw [lv_len]; omega)]) (by omega) (by
      rintro ys S' ⟨rfl, hy⟩ hlt
      have g : W[ys.length]? = some W[ys.length] := List.getElem?_eq_getElem hlt
      rw [g]
      have hmem := List.getElem_mem hlt
      obtain ⟨ρ1, h1, h2⟩ := hset (tv W[ys.length]) S'
      have s1 : ev cf (.slot j) ρ1 S' = some (tv W[ys.length], S') := by show (match ρ1[j]? with | some (some v) => some (v, S') | _ => none) = _; rw [h2]
      have hl1 := hlen _ hmem
      refine ⟨_, S', turn_yes h1 (ev_bin s1 (ev_tup (evs_cons rfl evs_nil) (show 1 ≤ 1000000 by decide)) (tup_add (by omega))), rfl, ?_⟩
      have el : ∀ v : Val, (ys ++ [v]).length = ys.length + 1 := fun v => by simp
      rw [el, List.take_succ, g, List.map_append, lv_app, ← hy]; rfl)
  rw [hyl, List.take_length] at hy
  subst hy
  have si : ev cf (.slot i) ρ S2 = some (.ref wr, S2) := by show (match ρ[i]? with | some (some v) => some (v, S2) | _ => none) = _; rw [hi]
  exact ev_lc (evI_ex si (src_l hw)) (n := W.length) (by rw [itLen_l hw, lv_len]) e
theorem add_ll2 {r3 r4 : Nat} {a b : List (List Int)} {S : Store} (g3 : S[r3]? = some (.lst false (lv a))) (g4 : S[r4]? = some (.lst false (lv b))) (h : a.length + b.length ≤ 100000) :
    binV .add (.ref r3) (.ref r4) S = some (.ref S.length, S ++ [.lst false (lv (a ++ b))]) := by
  show (match S[r3]?, S[r4]? with
    | some (.lst false xs), some (.lst false ys) => newL (xs ++ ys) S
    | _, _ => none) = _
  rw [g3, g4]
  show newL _ S = _
  rw [newL_ok (by rw [List.length_append, lv_len, lv_len]; omega), ← lv_app]
/-- where the words of a lap stand -/
structure Lot (S : Store) (wr dd most : Nat) (W : List (List Int)) : Prop where
  at_ : S[wr]? = some (.lst false (lv W))
  iso : Iso dd W
  ne : W ≠ []
  few : W.length ≤ most
  lo : 4 ≤ wr
abbrev EW (most : Nat) (m : Bool) (a3 a4 a5 a6 : Option Val) : Rf.Env := [some (.ref 3), some (.int (most : Int)), some (.bl m), a3, a4, a5, a6, none, none]
variable {p o h w m : Nat} {most dd i : Nat} {a4 a5 a6 : Option Val}
def GB (p o h w m : Nat) : B := loopB (bnth (DWordsG p o h w m).body 2)
/-- the lot grows by a part -/
theorem grow_part {cf : CF} {wr pr M : Nat} {W P : List (List Int)} {md : Bool} (hM : most ≤ M) (hL : Lot S wr dd M W) (hs : Sub W P) (hp : S[pr]? = some (.lst false (lv P))) (hm : most < 1000) (hd : dd < 800) :
    ∃ wr' W' dd' S', ex cf 200 (bnth (GB p o h w m) 3) (EW most md (some (.ref wr)) a4 a5 (some (.ref pr))) S = some (.nx, EW most md (some (.ref wr')) a4 a5 (some (.ref pr)), S') ∧ Le S S' ∧ Lot S' wr' dd' M W' ∧ dd' ≤ dd + 1 ∧ (wr' = wr ∧ W' = W ∨ W' = expd W P) := by
  have hf := hL.few
  have t : ev cf (.cmp .le (.bin .add (.bi .len (.cons (.slot 3) .nil)) (.bi .len (.cons (.slot 6) .nil))) (.slot 1)) (EW most md (some (.ref wr)) a4 a5 (some (.ref pr))) S = some (.bl (decide (W.length + P.length ≤ most)), S) :=
    ev_cmp (ev_bin (ev_bi (evs_cons rfl evs_nil) ((len_lst hL.at_).trans (by rw [lv_len]))) (ev_bi (evs_cons rfl evs_nil) ((len_lst hp).trans (by rw [lv_len]))) nadd) rfl le_nat
  by_cases hle : W.length + P.length ≤ most
  · rw [decide_eq_true hle] at t
    have hlw : ∀ w ∈ W, w.length < 900 := fun w hw => by rw [hL.iso.len w hw]; omega
    have e1 := more_letter (cf := cf) (x := 0) (i := 3) (j := 8) (tg := .slot 8) (ρ := EW most md (some (.ref wr)) a4 a5 (some (.ref pr))) hL.at_ (by omega) hlw rfl (fun v S => ⟨_, rfl, rfl⟩)
    have e2 := more_letter (cf := cf) (x := 1) (i := 6) (j := 8) (tg := .slot 8) (ρ := EW most md (some (.ref wr)) a4 a5 (some (.ref pr))) ((Le.add S [Rf.Obj.lst false (lv (W.map fun w => w ++ [0]))]).get hp) (by omega) (fun w hw => hlw w (hs.sub w hw)) rfl (fun v S => ⟨_, rfl, rfl⟩)
    have g1 : ((S ++ [Rf.Obj.lst false (lv (W.map fun w => w ++ [0]))]) ++ [Rf.Obj.lst false (lv (P.map fun w => w ++ [1]))])[S.length]? = some (.lst false (lv (W.map fun w => w ++ [0]))) := (Le.add _ _).get get_last
    refine ⟨_, CG.expd W P, dd + 1, _, ex_if t (exs_nx (ex_asg (ev_bin e1 e2 (add_ll2 g1 get_last (by rw [List.length_map, List.length_map]; omega))) rfl) exs_nil), (Le.add _ _).trans ((Le.add _ _).trans (.add _ _)), ⟨get_last, hL.iso.expd hs, ?_, ?_, ?_⟩, Nat.le_refl _, .inr rfl⟩
    · intro q
      have := congrArg List.length q
      unfold CG.expd at this
      rw [List.length_append, List.length_map, List.length_nil] at this
      have h1 := List.length_pos_iff.mpr hL.ne
      omega
    · unfold CG.expd
      rw [List.length_append, List.length_map, List.length_map]; omega
    · have := (List.getElem?_eq_some_iff.mp hL.at_).1
      have := hL.lo
      rw [List.length_append, List.length_append]; omega
  · rw [decide_eq_false hle] at t
    exact ⟨wr, W, dd, S, ex_else t exs_nil, .refl _, hL, by omega, .inl ⟨rfl, rfl⟩⟩
/-- a lap of a median lot -/
theorem lapT {d : Nat} (hp : tbl[p]? = some DPickG) (ho : tbl[o]? = some (DOf p)) (hh : tbl[h]? = some DHullW) {wr : Nat} {W : List (List Int)} (hs : SrcOk S) (hL : Lot S wr dd most W) (hm : most < 1000) (hd : dd < 800) :
    ∃ a5' a6' wr' W' dd' S', exs (C tbl (d + 2)) 200 (GB p o h w m) (EW most true (some (.ref wr)) a4 a5 a6) S = some (.nx, EW most true (some (.ref wr')) a4 a5' a6' , S') ∧ Fr S S' ∧ Lot S' wr' dd' most W' ∧ dd' ≤ dd + 1 := by
  have hlo := hL.lo
  have hf := hL.few
  obtain ⟨j, S1, hj, e1, f1⟩ := c_pgn (d := d + 1) hp (m := 3) hs (by decide) (by decide)
  have hw1 := f1.keep wr _ (by omega) (by omega) hL.at_
  obtain ⟨ss, S2, e2, f2, hl2, hm2⟩ := some_words (d := d) ho hp (ρ := EW most true (some (.ref wr)) a4 a5 a6) (i := 3) (n := 1 + j) (tg := .slot 7) (own := [7]) f1.src hw1 hL.ne (by omega) (by omega) (by omega) (by omega) (fun v S => ⟨_, rfl, rfl, rfl⟩)
  match ss, hl2, hm2, e2 with
  | [], hl2, _, _ => simp at hl2; omega
  | s0 :: ss, hl2, hm2, e2 =>
    have f12 := f1.trans f2
    have i0 : ex (C tbl (d + 2)) 200 (bnth (GB p o h w m) 0) (EW most true (some (.ref wr)) a4 a5 a6) S = some (.nx, EW most true (some (.ref wr)) a4 (some (.ref S2.length)) a6, S2 ++ [.lst false (lv (s0 :: ss))]) :=
      ex_asg (ev_lc (evI_rng1 (j := ((1 + j : Nat) : Int)) (evs_cons (ev_bin rfl (ev_call (evs_cons rfl (evs_cons rfl evs_nil)) e1) (nadd (a := 1))) evs_nil) (rng_small (by omega))) (n := 1 + j) (Int.toNat_natCast _) e2) rfl
    have fA := f12.le2 (Le.add S2 [Rf.Obj.lst false (lv (s0 :: ss))])
    have gA : (S2 ++ [Rf.Obj.lst false (lv (s0 :: ss))])[S2.length]? = some (.lst false (lv (s0 :: ss))) := get_last
    generalize (S2 ++ [Rf.Obj.lst false (lv (s0 :: ss))]) = SA at i0 fA gA
    have hwA := fA.keep wr _ (by omega) (by omega) hL.at_
    rw [List.length_cons] at hl2
    obtain ⟨pr, S3, e3, l3, g3⟩ := c_hullw (d := d + 1) (f := h) hh hwA gA hL.iso.len (fun w hw => hL.iso.len w (hm2 w hw)) (by omega) (by omega) (by omega)
    have f3 := fA.le2 l3
    have hL3 : Lot S3 wr dd most W := ⟨l3.get hwA, hL.iso, hL.ne, hL.few, hL.lo⟩
    have i1 : ex (C tbl (d + 2)) 200 (bnth (GB p o h w m) 1) (EW most true (some (.ref wr)) a4 (some (.ref S2.length)) a6) SA = some (.nx, EW most true (some (.ref wr)) a4 (some (.ref S2.length)) (some (.ref pr)), S3) := ex_asg (ev_call (evs_cons rfl (evs_cons rfl evs_nil)) e3) rfl
    have i2 : ex (C tbl (d + 2)) 200 (bnth (GB p o h w m) 2) (EW most true (some (.ref wr)) a4 (some (.ref S2.length)) (some (.ref pr))) S3 = some (.nx, EW most true (some (.ref wr)) a4 (some (.ref S2.length)) (some (.ref pr)), S3) := ex_else (ev_not (q := true) rfl) exs_nil
    obtain ⟨wr', W', dd', S4, e4, l4, hL4, hd4, _⟩ := grow_part (p := p) (o := o) (h := h) (w := w) (m := m) (cf := C tbl (d + 2)) (a4 := a4) (a5 := some (.ref S2.length)) (md := true) (Nat.le_refl _) hL3 (hull_sub (s0 := s0) (al := alikeL dd s0 ss) hL.iso) g3 hm hd
    exact ⟨_, _, wr', W', dd', S4, exs_nx i0 (exs_nx i1 (exs_nx i2 (exs_nx e4 exs_nil))), f3.le2 l4, hL4, hd4⟩
/-- _law_words(source, most, True) -/
theorem c_wordsT {f : Nat} (hTab : tbl[f]? = some (DWordsG p o h w m)) (hp : tbl[p]? = some DPickG) (ho : tbl[o]? = some (DOf p)) (hh : tbl[h]? = some DHullW) (hmx : tbl[m]? = some (DMixed p)) {d : Nat} (hs : SrcOk S) (h1 : 1 ≤ most) (hm : most < 1000) :
    ∃ q dd W S', C tbl (d + 3) f [.ref 3, .int (most : Int), .bl true] S = some (.ref q, S') ∧ Fr S S' ∧ Lot S' q dd most W ∧ dd ≤ 6 := by
  have h4 := src_len4 hs
  have i0 : ex (C tbl (d + 2)) 200 (bnth (DWordsG p o h w m).body 0) (startE (DWordsG p o h w m) [.ref 3, .int (most : Int), .bl true]) S = some (.nx, EW most true (some (.ref S.length)) none none none, S ++ [.lst false (lv [[]])]) :=
    ex_asg (ev_lst (evs_cons (ev_tup evs_nil (show 0 ≤ 1000000 by decide)) evs_nil) (show 1 ≤ 1000000 by decide)) rfl
  have i1 : ∀ T, ex (C tbl (d + 2)) 200 (bnth (DWordsG p o h w m).body 1) (EW most true (some (.ref S.length)) none none none) T = some (.nx, EW most true (some (.ref S.length)) none none none, T) := fun T => ex_else (ev_and0 (ev_not (q := true) rfl)) exs_nil
  have f0 := Fr.le hs (Le.add S [Rf.Obj.lst false (lv [[]])])
  obtain ⟨n, S1, hn, e1, f1⟩ := c_pgn (d := d + 1) hp (m := 7) f0.src (by decide) (by decide)
  have g1 : S1[S.length]? = some (.lst false (lv [[]])) := f1.keep _ _ (by omega) (by omega) get_last
  have fr1 := f0.trans f1
  obtain ⟨ρ2, S2, e2, wr, W, dd, z4, z5, z6, rfl, f2, hL, hdd⟩ := loop_inv (set := asg (C tbl (d + 2)) (.slot 4)) (body := exs (C tbl (d + 2)) 200 (GB p o h w m)) (J := .rng 0 1 n) (vs := (List.range n).map fun i : Nat => .int (0 + (i : Int))) (ρ := EW most true (some (.ref S.length)) none none none) (S := S1)
    (fun i ρ S' => ∃ wr W dd z4 z5 z6, ρ = EW most true (some (.ref wr)) z4 z5 z6 ∧ Fr S S' ∧ Lot S' wr dd most W ∧ dd ≤ i) ⟨S.length, [[]], 0, none, none, none, rfl, fr1, ⟨g1, iso_one, by simp, h1, h4⟩, Nat.le_refl _⟩ (fun i ρ S' _ => its_rng S' (.refl _) i) (by
      rintro i v ρ S' ⟨wr, W, dd, z4, z5, z6, rfl, fr, hL, hdd⟩ hv
      have hi : i < n := by
        have := (List.getElem?_eq_some_iff.mp hv).1
        simpa using this
      obtain ⟨a5', a6', wr', W', dd', S3, e3, f3, hL3, hd3⟩ := lapT (d := d) (w := w) (m := m) (a4 := some v) (a5 := z5) (a6 := z6) hp ho hh fr.src hL hm (by omega)
      exact ⟨_, _, rfl, _, _, e3, wr', W', dd', _, _, _, rfl, fr.trans f3, hL3, by omega⟩)
  rw [List.length_map, List.length_range] at e2 hdd
  have i2 : ex (C tbl (d + 2)) 200 (bnth (DWordsG p o h w m).body 2) (EW most true (some (.ref S.length)) none none none) (S ++ [.lst false (lv [[]])]) = some (.nx, EW most true (some (.ref wr)) z4 z5 z6, S2) :=
    ex_loop (evI_rng1 (j := (n : Int)) (evs_cons (ev_call (evs_cons rfl (evs_cons rfl evs_nil)) e1) evs_nil) (rng_small (by omega))) (n := n) (Int.toNat_natCast _) e2
  have hfew := hL.few
  obtain ⟨ys, q, S3, e3, g3, p3, f3, hq⟩ := c_mixed (d := d) hmx hp f2.src hL.at_ (by rw [lv_len]; omega)
  obtain ⟨W', rfl, hp'⟩ := perm_of_map (f := tv) p3 (n := W) rfl
  have := src_len4 f2.src
  refine ⟨q, dd, W', S3, (callF_at (F := DWordsG p o h w m) hTab rfl).trans (run_ret (exs_nx i0 (exs_nx (i1 _) (exs_nx i2 (exs_ret (ex_ret (ev_call (evs_cons rfl (evs_cons rfl evs_nil)) e3))))))), f2.trans f3, ⟨g3, hL.iso.perm hp', ?_, by rw [hp'.length_eq]; exact hL.few, by omega⟩, by omega⟩
  intro e
  subst e
  exact hL.ne (List.nil_perm.mp hp')
end CG

/-! CG8: the web of a lot, its table. -/
namespace CG
open Rf Cm
variable {tbl : List FD} {d : Nat} {S : Store}
/-! ### the web -/
def pz (t : Nat × Nat) : List Int := [(t.1 : Int), (t.2 : Int)]
theorem tie_pz (t : Nat × Nat) : tieV t = tv (pz t) := rfl
def tieB (W : List (List Int)) (b : Nat) : List (Nat × Nat) := ((List.range b).filter fun a => adjW W a b).map fun a => (a, b)
def tiesW (W : List (List Int)) (n : Nat) : List (Nat × Nat) := (List.range n).flatMap (tieB W)
theorem tiesW_succ (W : List (List Int)) (n : Nat) : tiesW W (n + 1) = tiesW W n ++ tieB W n := by
  unfold tiesW
  rw [List.range_succ, List.flatMap_append]
  simp
theorem mem_tiesW {W : List (List Int)} {n : Nat} {t : Nat × Nat} : t ∈ tiesW W n ↔ t.1 < t.2 ∧ t.2 < n ∧ adjW W t.1 t.2 = true := by
  unfold tiesW tieB
  simp only [List.mem_flatMap, List.mem_range, List.mem_map, List.mem_filter]
  constructor
  · rintro ⟨b, hb, a, ⟨ha, h⟩, rfl⟩
    exact ⟨ha, hb, h⟩
  · rintro ⟨h1, h2, h3⟩
    exact ⟨t.2, h2, t.1, ⟨h1, h3⟩, rfl⟩
theorem tieB_len (W : List (List Int)) (b : Nat) : (tieB W b).length ≤ b := by
  unfold tieB
  rw [List.length_map]
  have := List.length_filter_le (fun a => adjW W a b) (List.range b)
  rwa [List.length_range] at this
theorem tiesW_len (W : List (List Int)) : ∀ n, (tiesW W n).length ≤ n * n
  | 0 => by simp [tiesW]
  | n + 1 => by
    have h1 := tiesW_len W n
    have h2 := tieB_len W n
    rw [tiesW_succ, List.length_append]
    have : (n + 1) * (n + 1) = n * n + n + n + 1 := by rw [Nat.add_mul, Nat.mul_add]; omega
    omega
theorem tiesW_nd (W : List (List Int)) : ∀ n, (tiesW W n).Nodup
  | 0 => by simp [tiesW]
  | n + 1 => by
    rw [tiesW_succ, List.nodup_append]
    refine ⟨tiesW_nd W n, ?_, ?_⟩
    · unfold tieB
      exact List.nodup_iff_pairwise_ne.mpr (List.pairwise_map.mpr ((range_filter_nd n _).imp fun hne q => hne (by cases q; rfl)))
    · rintro a ha b hb rfl
      have h1 := (mem_tiesW.mp ha).2.1
      unfold tieB at hb
      obtain ⟨c, _, rfl⟩ := List.mem_map.mp hb
      dsimp only at h1
      omega
theorem zi_pz (ts : List (Nat × Nat)) : ts.map tieV = lv (ts.map pz) := by unfold lv; rw [List.map_map]; rfl
/-- a web of a lot -/
structure WebOf (W : List (List Int)) (ts : List (Nat × Nat)) : Prop where
  mem : ∀ t, t ∈ ts ↔ t.1 < t.2 ∧ t.2 < W.length ∧ adjW W t.1 t.2 = true
  nd : ts.Nodup
  few : ts.length ≤ W.length * W.length
theorem WebOf.ties {W : List (List Int)} {ts : List (Nat × Nat)} (h : WebOf W ts) : Ties W.length ts := ⟨fun t ht => let q := (h.mem t).mp ht; ⟨q.1, q.2.1⟩, h.nd⟩
theorem adj_irr {W : List (List Int)} {a : Nat} : adjW W a a = false := by
  unfold adjW
  cases W[a]? with
  | none => rfl
  | some u => simp [ham_self]
theorem WebOf.nbr {W : List (List Int)} {ts : List (Nat × Nat)} (h : WebOf W ts) : ∀ a, a < W.length → ∀ b, b ∈ nbr ts W.length a ↔ b < W.length ∧ adjW W a b = true := by
  intro a ha b
  unfold CG.nbr
  rw [List.mem_filter, List.mem_range, decide_eq_true_eq, h.mem, h.mem]
  dsimp only
  constructor
  · rintro ⟨hb, ⟨_, _, q⟩ | ⟨_, _, q⟩⟩
    · exact ⟨hb, q⟩
    · exact ⟨hb, by rw [adjW_sym]; exact q⟩
  · rintro ⟨hb, q⟩
    refine ⟨hb, ?_⟩
    by_cases hab : a < b
    · exact .inl ⟨hab, hb, q⟩
    · have hne : a ≠ b := by
        rintro rfl
        rw [adj_irr] at q; cases q
      exact .inr ⟨by omega, ha, by rw [adjW_sym]; exact q⟩
theorem c_web {f a : Nat} (hTab : tbl[f]? = some (DWebG a)) (ha : tbl[a]? = some DApart) {wr : Nat} {k : Bool} {W : List (List Int)} (hw : S[wr]? = some (.lst k (lv W))) (hl : W.length < 100) (hlen : ∀ w ∈ W, w.length < 900) :
    ∃ ts S', C tbl (d + 2) f [.ref wr] S = some (webV W.length ts, S') ∧ Le S S' ∧ WebOf W ts := by
  have lA := Le.add S [Rf.Obj.lst false (lv ((tiesW W 0).map pz))]
  have gA : (S ++ [Rf.Obj.lst false (lv ((tiesW W 0).map pz))])[S.length]? = some (.lst false (lv ((tiesW W 0).map pz))) := get_last
  obtain ⟨ρ2, S2, e2, tr, z2, rfl, l2, g2⟩ := loop_inv (set := asg (C tbl (d + 1)) (.slot 2)) (body := exs (C tbl (d + 1)) 200 (loopB (bnth (DWebG a).body 1))) (J := .rng 0 1 W.length) (vs := (List.range W.length).map fun i : Nat => .int (0 + (i : Int))) (ρ := [some (.ref wr), some (.ref S.length), none, none]) (S := S ++ [.lst false (lv ((tiesW W 0).map pz))])
    (fun i ρ S' => ∃ tr z2, ρ = [some (.ref wr), some (.ref tr), z2, none] ∧ Le S S' ∧ S'[tr]? = some (.lst false (lv ((tiesW W i).map pz)))) ⟨_, _, rfl, lA, gA⟩ (fun i ρ S' _ => its_rng S' (.refl _) i) (by
      rintro b v ρ S' ⟨tr, z2, rfl, l, g⟩ hv
      have hb : b < W.length := by
        have := (List.getElem?_eq_some_iff.mp hv).1
        simpa using this
      have hv' : v = .int (b : Nat) := by
        rw [List.getElem?_map, List.getElem?_range hb] at hv
        rw [← Option.some.inj hv]
        show Val.int (0 + (b : Int)) = _
        rw [Int.zero_add]
      subst hv'
      have gb : W[b]? = some W[b] := List.getElem?_eq_getElem hb
      have ixw : ∀ {c : Nat} {u : List Int} {T : Store}, W[c]? = some u → Le S T → ixV (.ref wr) (.int (c : Int)) T = some (tv u) := fun hc lt => ix_lst (lt.get hw) (at_nat (by rw [lv, List.getElem?_map, hc]; rfl))
      obtain ⟨S3, e3, l3⟩ := lc_map (f := dTurn [3] (asg (C tbl (d + 1)) (.slot 3)) (ev (C tbl (d + 1)) (.cmp .eq (.call a (.cons (.idx (.slot 0) (.slot 3)) (.cons (.idx (.slot 0) (.slot 2)) .nil))) (.k (.int 1)))) (ev (C tbl (d + 1)) (.tup (.cons (.slot 3) (.cons (.slot 2) .nil)))) [some (.ref wr), some (.ref tr), some (.int (b : Int)), none])
        (J := .rng 0 1 b) (ws := List.range b) (t := fun i : Nat => Val.int (0 + (i : Int))) (S := S') (fun c => if adjW W c b = true then some (tv (pz (c, b))) else none) its_rng (by rw [List.length_range]; omega) (by
          intro c hc S'' l'
          have hc := List.mem_range.mp hc
          have gc : W[c]? = some W[c] := List.getElem?_eq_getElem (by omega)
          obtain ⟨S4, e4, l4⟩ := c_apart (d := d) (f := a) ha (u := W[c]) (w := W[b]) (S := S'') (by have := hlen _ (List.getElem_mem (show c < W.length by omega)); omega)
          have t : ev (C tbl (d + 1)) (.cmp .eq (.call a (.cons (.idx (.slot 0) (.slot 3)) (.cons (.idx (.slot 0) (.slot 2)) .nil))) (.k (.int 1))) [some (.ref wr), some (.ref tr), some (.int (b : Int)), some (.int (c : Int))] S'' = some (.bl (adjW W c b), S4) := by
            refine ev_cmp (ev_call (evs_cons (ev_idx rfl rfl (ixw gc (l.trans l'))) (evs_cons (ev_idx rfl rfl (ixw gb (l.trans l'))) evs_nil)) e4) rfl ?_
            rw [adjW_at gc gb]
            exact eq_nat (n := 1)
          have hset : asg (C tbl (d + 1)) (.slot 3) (.int (0 + (c : Int))) (wipeE [some (.ref wr), some (.ref tr), some (.int (b : Int)), none] [3]) S'' = some ([some (.ref wr), some (.ref tr), some (.int (b : Int)), some (.int (c : Int))], S'') := by rw [Int.zero_add]; rfl
          by_cases h : adjW W c b = true
          · rw [if_pos h]
            rw [h] at t
            exact ⟨S4, turn_t hset t (ev_tup (evs_cons rfl (evs_cons rfl evs_nil)) (show 2 ≤ 1000000 by decide)), l4⟩
          · rw [if_neg h]
            rw [Bool.eq_false_iff.mpr h] at t
            exact ⟨S4, turn_f hset t, l4⟩)
      rw [filterMap_if, List.length_range] at e3
      have em : ((List.range b).filter fun c => adjW W c b).map (fun c => tv (pz (c, b))) = lv ((tieB W b).map pz) := by
        unfold lv tieB
        rw [List.map_map, List.map_map]; rfl
      rw [em] at e3
      have h1 := tiesW_len W b
      have h2 := tieB_len W b
      have h3 : b * b ≤ 100 * 100 := Nat.mul_le_mul (by omega) (by omega)
      refine ⟨_, _, rfl, _, _, exs_nx (ex_asg (ev_bin rfl (ev_lc (evI_rng1 (j := (b : Int)) (evs_cons rfl evs_nil) (rng_small (by omega))) (n := b) (Int.toNat_natCast _) e3) (add_ll2 ((Le.add _ _).get (l3.get g)) get_last (by rw [List.length_map, List.length_map]; omega))) rfl) exs_nil, _, _, rfl, l.trans (l3.trans ((Le.add _ _).trans (.add _ _))), ?_⟩
      rw [tiesW_succ, List.map_append]
      exact get_last)
  rw [List.length_map, List.length_range] at e2 g2
  have hlen2 := tiesW_len W W.length
  have h3 : W.length * W.length ≤ 100 * 100 := Nat.mul_le_mul (by omega) (by omega)
  have es := sort_lv g2 (by rw [Bool.or_eq_true]; exact .inl (List.all_eq_true.mpr fun l hl => by
    obtain ⟨t, _, rfl⟩ := List.mem_map.mp hl
    rfl)) (by rw [List.length_map]; omega)
  obtain ⟨ts, et, pt⟩ := perm_of_map (f := pz) (sortL_perm ((tiesW W W.length).map pz)) rfl
  rw [et] at es
  refine ⟨ts, _, (callF_at (F := DWebG a) hTab rfl).trans (run_ret (exs_nx (ex_asg (ev_lst evs_nil (show 0 ≤ 1000000 by decide)) rfl) (exs_nx (ex_loop (evI_rng1 (j := (W.length : Int)) (evs_cons (ev_bi (evs_cons rfl evs_nil) ((len_lst (lA.get hw)).trans (by rw [lv_len]))) evs_nil) (rng_small (by omega))) (n := W.length) (Int.toNat_natCast _) e2) (exs_ret (ex_ret (ev_tup (vs := [.int (W.length : Int), .tup (ts.map tieV)]) (evs_cons (ev_bi (evs_cons rfl evs_nil) ((len_lst (l2.get hw)).trans (by rw [lv_len]))) (evs_cons (ev_bi (evs_cons (ev_bi (evs_cons rfl evs_nil) es) evs_nil) (by rw [zi_pz]; exact tup_lst get_last)) evs_nil)) (show 2 ≤ 1000000 by decide))))))), l2.trans (.add _ _), ?_⟩
  exact ⟨fun t => by rw [pt.mem_iff]; exact mem_tiesW, pt.nodup_iff.mpr (tiesW_nd W _), by rw [pt.length_eq]; exact hlen2⟩
/-! ### the table of a lot -/
def rowL (W : List (List Int)) (x : Nat) : List Nat := W.map fun w => ham (W[x]?.getD []) w
theorem rowL_len (W : List (List Int)) (x : Nat) : (rowL W x).length = W.length := by simp [rowL]
theorem rowL_at {W : List (List Int)} {x y : Nat} {u w : List Int} (h1 : W[x]? = some u) (h2 : W[y]? = some w) : (rowL W x)[y]? = some (ham u w) := by
  unfold rowL
  rw [List.getElem?_map, h1, h2]; rfl
theorem rowV_iso {W : List (List Int)} {x : Nat} (hx : x < W.length) : rowV W.length (distW W x) = .tup ((zi (rowL W x)).map .int) := by
  unfold rowV
  congr 1
  refine List.ext_getElem? fun b => ?_
  by_cases hb : b < W.length
  · have gx : W[x]? = some W[x] := List.getElem?_eq_getElem hx
    have gb : W[b]? = some W[b] := List.getElem?_eq_getElem hb
    rw [List.getElem?_map, List.getElem?_range hb, zi, List.map_map, List.getElem?_map, rowL_at gx gb, Option.map_some, Option.map_some, distW_at gx gb]; rfl
  · rw [List.getElem?_eq_none (by simp; omega), List.getElem?_eq_none (by rw [List.length_map, zi_len, rowL_len]; omega)]
def tabV (W : List (List Int)) : Val := .tup ((List.range W.length).map fun x => .tup ((zi (rowL W x)).map .int))
/-- distances_of of a lot's web -/
theorem c_distW {f n0 r0 : Nat} (hTab : tbl[f]? = some (DDist n0 r0)) (hTn : tbl[n0]? = some DNeigh) (hTr : tbl[r0]? = some DRow) {dd : Nat} {W : List (List Int)} {ts : List (Nat × Nat)} (hI : Iso dd W) (hW : WebOf W ts) (hl : W.length < 64) (hd : dd < 150) :
    ∃ S', C tbl (d + 2) f [webV W.length ts] S = some (tabV W, S') ∧ Kp S S' := by
  have hf := hW.few
  have h3 : W.length * W.length ≤ 64 * 64 := Nat.mul_le_mul (by omega) (by omega)
  obtain ⟨S', e, k⟩ := c_dist (d := d) (S := S) hTab hTn hTr hW.ties hl (by omega) (distW W) (fun x hx => iso_bfs hI hx hW.nbr) hd
  refine ⟨S', ?_, k⟩
  rw [e]
  unfold tabV
  congr 3
  refine List.map_congr_left fun x hx => ?_
  exact rowV_iso (List.mem_range.mp hx)
/-- the same, all made behind lo -/
def NearHi (S : Store) (r n : Nat) (g : Nat → List Nat) (lo : Nat) : Prop := ∃ rs : List Nat, S[r]? = some (.lst false (rs.map .ref)) ∧ lo ≤ r ∧ rs.length = n ∧ ∀ a, a < n → ∃ x, rs[a]? = some x ∧ lo ≤ x ∧ S[x]? = some (.lst false ((zi (g a)).map .int))
theorem NearHi.ok {r n lo : Nat} {g : Nat → List Nat} (h : NearHi S r n g lo) : NearOk S r n g := by
  obtain ⟨rs, h1, _, h2, h3⟩ := h
  exact ⟨rs, h1, h2, fun a ha => let ⟨x, e1, _, e2⟩ := h3 a ha; ⟨x, e1, e2⟩⟩
theorem NearHi.fr {S' : Store} {r n lo : Nat} {g : Nat → List Nat} (h : NearHi S r n g lo) (h4 : 4 ≤ lo) (f : Fr S S') : NearHi S' r n g lo := by
  obtain ⟨rs, h1, hr, h2, h3⟩ := h
  refine ⟨rs, f.keep _ _ (by omega) (by omega) h1, hr, h2, fun a ha => ?_⟩
  obtain ⟨x, e1, hx, e2⟩ := h3 a ha
  exact ⟨x, e1, hx, f.keep _ _ (by omega) (by omega) e2⟩
/-- _law_table -/
theorem c_table {f a : Nat} (hTab : tbl[f]? = some (DTable a)) (ha : tbl[a]? = some DApart) {wr : Nat} {k : Bool} {W : List (List Int)} (hw : S[wr]? = some (.lst k (lv W))) (hl : W.length < 1000) (hlen : ∀ w ∈ W, w.length < 900) :
    ∃ r S', C tbl (d + 2) f [.ref wr] S = some (.ref r, S') ∧ Le S S' ∧ NearHi S' r W.length (rowL W) S.length := by
  obtain ⟨ys, S2, e2, ⟨l2, rs, hy, hr⟩, hyl⟩ := lc_acc (f := dTurn [1] (asg (C tbl (d + 1)) (.slot 1)) (ev (C tbl (d + 1)) (.k (.bl true))) (ev (C tbl (d + 1)) (.lc (.call a (.cons (.slot 1) (.cons (.slot 2) .nil))) (.slot 2) (.ex (.slot 0)) (.k (.bl true)) [2])) [some (.ref wr), none, none]) (J := .seq (.l wr)) (n := W.length) (S := S)
    (fun ys S' => Le S S' ∧ ∃ rs : List Nat, ys = rs.map .ref ∧ ∀ x, x < ys.length → ∃ c, rs[x]? = some c ∧ S.length ≤ c ∧ S'[c]? = some (.lst false ((zi (rowL W x)).map .int))) (fun i => tv (W[i]?.getD [])) ⟨.refl _, [], rfl, fun x hx => absurd hx (Nat.not_lt_zero _)⟩ (by
      rintro ys S' ⟨l, _⟩ hle
      have hw' := l.get hw
      simp only [itAt, srcAt, hw']
      congr 1
      by_cases h : ys.length < W.length
      · rw [if_pos h, lv, List.getElem?_map, List.getElem?_eq_getElem h]; rfl
      · rw [if_neg h, List.getElem?_eq_none (by rw [lv_len]; omega)]) (by omega) (by
      rintro ys S' ⟨l, rs, rfl, hr⟩ hlt
      rw [List.length_map] at hlt hr
      have g : W[rs.length]? = some W[rs.length] := List.getElem?_eq_getElem hlt
      rw [List.length_map, g]
      have hl1 := hlen _ (List.getElem_mem hlt)
      have hrow : rowL W rs.length = W.map fun w => ham W[rs.length] w := by unfold rowL; rw [g]; rfl
      generalize W[rs.length] = u at g hl1 hrow
      obtain ⟨S3, e3, l3⟩ := lc_map (f := dTurn [2] (asg (C tbl (d + 1)) (.slot 2)) (ev (C tbl (d + 1)) (.k (.bl true))) (ev (C tbl (d + 1)) (.call a (.cons (.slot 1) (.cons (.slot 2) .nil)))) [some (.ref wr), some (tv u), none])
        (J := .seq (.l wr)) (ws := W) (t := tv) (S := S') (fun w => some (Val.int (ham u w : Nat))) (its_l (l.get hw)) (by omega) (by
          intro w _ S'' _
          obtain ⟨S4, e4, l4⟩ := c_apart (d := d) (f := a) ha (u := u) (w := w) (S := S'') (by omega)
          exact ⟨S4, turn_yes (ρ1 := [some (.ref wr), some (tv u), some (tv w)]) rfl (ev_call (evs_cons rfl (evs_cons rfl evs_nil)) e4), l4⟩)
      rw [filterMap_some] at e3
      have em : W.map (fun w => Val.int (ham u w : Nat)) = (zi (rowL W rs.length)).map .int := by rw [hrow, zi, List.map_map, List.map_map]; rfl
      rw [em] at e3
      refine ⟨.ref S3.length, _, turn_yes (ρ1 := [some (.ref wr), some (tv u), none]) rfl (ev_lc (evI_ex rfl (src_l (l.get hw))) (n := W.length) (by rw [itLen_l (l.get hw), lv_len]) e3), l.trans (l3.trans (.add _ _)), rs ++ [S3.length], by simp, fun x hx => ?_⟩
      have hx' : x < rs.length + 1 := by simpa using hx
      by_cases h : x < rs.length
      · obtain ⟨c, h1, hc, h2⟩ := hr x h
        exact ⟨c, by rw [List.getElem?_append_left h]; exact h1, hc, (Le.add _ _).get (l3.get h2)⟩
      · have : x = rs.length := by omega
        subst this
        exact ⟨S3.length, by rw [List.getElem?_append_right (Nat.le_refl _)]; simp, (Kp.of (l.trans l3)).len, get_last⟩)
  subst hy
  rw [List.length_map] at hyl
  refine ⟨S2.length, _, (callF_at (F := DTable a) hTab rfl).trans (run_ret (exs_ret (ex_ret (ev_lc (evI_ex rfl (src_l hw)) (n := W.length) (by rw [itLen_l hw, lv_len]) e2)))), l2.trans (.add _ _), rs, get_last, (Kp.of l2).len, hyl, fun x hx => ?_⟩
  obtain ⟨c, h1, hc, h2⟩ := hr x (by rw [List.length_map, hyl]; exact hx)
  exact ⟨c, h1, hc, (Le.add _ _).get h2⟩
end CG

/-! CG9: votes, far sums, middles. -/
namespace CG
open Rf Cm
variable {tbl : List FD} {d : Nat} {S : Store}
/-! ### the least -/
def minZ (x : Int) (l : List Int) : Int := l.foldl (fun a y => if y < a then y else a) x
theorem minZ_spec : ∀ (l : List Int) (x : Int), minZ x l ∈ x :: l ∧ ∀ y ∈ x :: l, minZ x l ≤ y
  | [], x => ⟨List.mem_singleton.mpr rfl, fun y hy => by rw [List.mem_singleton.mp hy]; exact Int.le_refl _⟩
  | z :: l, x => by
    obtain ⟨i1, i2⟩ := minZ_spec l (if z < x then z else x)
    have e : minZ x (z :: l) = minZ (if z < x then z else x) l := rfl
    have i3 := i2 _ List.mem_cons_self
    rw [e]
    refine ⟨?_, fun y hy => ?_⟩
    · rcases List.mem_cons.mp i1 with h | h
      · rw [h]
        split
        · exact List.mem_cons_of_mem _ List.mem_cons_self
        · exact List.mem_cons_self
      · exact List.mem_cons_of_mem _ (List.mem_cons_of_mem _ h)
    · rcases List.mem_cons.mp hy with h | h
      · rw [h]
        refine Int.le_trans i3 ?_
        split <;> omega
      · rcases List.mem_cons.mp h with h | h
        · rw [h]
          refine Int.le_trans i3 ?_
          split <;> omega
        · exact i2 _ (List.mem_cons_of_mem _ h)
theorem minB_ints {S : Store} (x : Int) (l : List Int) : minB S ((x :: l).map .int) = some (.int (minZ x l)) := by
  have hm : ∀ l : List Int, mapO (dataOf S) (l.map .int) = some (l.map .int) := fun l => toD_ints (k := 19) l
  have hp : ∀ l : List Int, pureVs (l.map .int) = true := by
    intro l
    induction l with
    | nil => rfl
    | cons y l ih =>
      show (pureV (.int y) && pureVs (l.map .int)) = true
      rw [ih]; rfl
  have ha : ∀ l : List Int, alikeB (l.map .int) = true := by
    intro l
    unfold alikeB
    rw [List.all_eq_true]
    intro e he
    obtain ⟨i, _, rfl⟩ := List.mem_map.mp he
    rw [Bool.and_eq_true, List.all_eq_true]
    refine ⟨fun e he => ?_, rfl⟩
    obtain ⟨j, _, rfl⟩ := List.mem_map.mp he
    rfl
  have hd : ∀ l : List Int, PySem.PyData.depthAll (l.map .int) = 0 := ints_depth
  have hf : ∀ (l : List Int) (x : Int), (l.map Val.int).foldl (fun a y => if PySem.W.dataLt (dOf S y) (dOf S a) then y else a) (.int x) = .int (minZ x l) := by
    intro l
    induction l with
    | nil => intro x; rfl
    | cons y l ih =>
      intro x
      rw [List.map_cons, List.foldl_cons]
      have e : (if PySem.W.dataLt (dOf S (.int y)) (dOf S (.int x)) = true then Val.int y else .int x) = .int (if y < x then y else x) := by
        have e0 : PySem.W.dataLt (dOf S (.int y)) (dOf S (.int x)) = decide (y < x) := PySem.W.dataLt_int y x
        rw [e0]
        by_cases h : y < x
        · rw [decide_eq_true h, if_pos rfl, if_pos h]
        · rw [decide_eq_false h, if_neg Bool.false_ne_true, if_neg h]
      rw [e, ih]; rfl
  have h1 : mapO (dataOf S) (.int x :: l.map .int) = some ((x :: l).map .int) := hm (x :: l)
  have h2 : pureVs (.int x :: l.map .int) = true := hp (x :: l)
  have h3 := ha (x :: l)
  have h4 := hd (x :: l)
  show minB S (.int x :: l.map .int) = _
  simp only [minB, h1, h2, h3, h4, hf, Bool.true_and]
  rfl
theorem min_tup {S : Store} {x : Int} {l : List Int} : biV .min [.tup ((x :: l).map .int)] S = some (.int (minZ x l), S) := by
  show (minB S ((x :: l).map .int)).map (fun v => (v, S)) = _
  rw [minB_ints]; rfl
theorem min_lst {S : Store} {r : Nat} {k : Bool} {x : Int} {l : List Int} (h : S[r]? = some (.lst k ((x :: l).map .int))) : biV .min [.ref r] S = some (.int (minZ x l), S) := by
  simp only [biV, h]
  rw [minB_ints]; rfl
/-! ### sums -/
def dot (v r : List Nat) : Nat := ((v.zip r).map fun p => p.1 * p.2).sum
theorem zip_zi (v r : List Nat) : (zi v).zip (zi r) = (v.zip r).map fun p => ((p.1 : Int), (p.2 : Int)) := by
  unfold zi
  rw [List.zip_map]; rfl
theorem dot_zi (v r : List Nat) : (((zi v).zip (zi r)).map fun p => p.1 * p.2).sum = (dot v r : Nat) := by
  rw [zip_zi, List.map_map]
  unfold dot
  rw [← zi_sum]
  unfold zi
  rw [List.map_map]
  congr 1
/-- sum([many * far for many, far in zip(..)]) -/
theorem ev_dot {cf : CF} {i j : Nat} {a b : X} {ρ : Rf.Env} {v r : List Nat} {s1 s2 : Src} {x y : Val} (ha : ev cf a ρ S = some (x, S)) (hb : ev cf b ρ S = some (y, S)) (h1 : srcOf x S = some s1) (h2 : srcOf y S = some s2) (hv : Its (.seq s1) ((zi v).map .int) S) (hr : Its (.seq s2) ((zi r).map .int) S)
    (hn : itLen (.zip [s1, s2]) S = (v.zip r).length) (hl : v.length < 10000) (hs : ∀ x ∈ r, x < 1000000)
    (hset : ∀ (x y : Int) (S : Store), ∃ ρ1 : Rf.Env, asg cf (.tup (.cons (.slot i) (.cons (.slot j) .nil))) (.tup [.int x, .int y]) (wipeE ρ [i, j]) S = some (ρ1, S) ∧ ρ1[i]? = some (some (.int x)) ∧ ρ1[j]? = some (some (.int y))) :
    ∃ S', ev cf (.bi .sum (.cons (.lc (.bin .mul (.slot i) (.slot j)) (.tup (.cons (.slot i) (.cons (.slot j) .nil))) (.zip (.cons a (.cons b .nil))) (.k (.bl true)) [i, j]) .nil)) ρ S = some (.int (dot v r : Nat), S') ∧ Le S S' := by
  obtain ⟨S2, e2, l2⟩ := lc_map (f := dTurn [i, j] (asg cf (.tup (.cons (.slot i) (.cons (.slot j) .nil)))) (ev cf (.k (.bl true))) (ev cf (.bin .mul (.slot i) (.slot j))) ρ) (J := .zip [s1, s2]) (ws := (zi v).zip (zi r)) (t := fun p => Val.tup [.int p.1, .int p.2]) (S := S) (fun p => some (Val.int (p.1 * p.2))) (by rw [← zipW]; exact its_zip2 hv hr) (by rw [zip_zi, List.length_map, List.length_zip]; omega) (by
    intro p hp S' _
    obtain ⟨ρ1, e1, g1, g2⟩ := hset p.1 p.2 S'
    have q1 : ev cf (.slot i) ρ1 S' = some (.int p.1, S') := by show (match ρ1[i]? with | some (some v) => some (v, S') | _ => none) = _; rw [g1]
    have q2 : ev cf (.slot j) ρ1 S' = some (.int p.2, S') := by show (match ρ1[j]? with | some (some v) => some (v, S') | _ => none) = _; rw [g2]
    rw [zip_zi] at hp
    obtain ⟨q, hq, rfl⟩ := List.mem_map.mp hp
    have hq2 := hs _ (List.of_mem_zip hq).2
    exact ⟨S', turn_yes e1 (ev_bin q1 q2 (mul_r (small_nat hq2))), .refl _⟩)
  rw [filterMap_some] at e2
  have hlen : ((zi v).zip (zi r)).length = (v.zip r).length := by rw [zip_zi, List.length_map]
  rw [hlen] at e2
  have hsum : biV .sum [.ref S2.length] (S2 ++ [.lst false (((zi v).zip (zi r)).map fun p => Val.int (p.1 * p.2))]) = some (.int (dot v r : Nat), S2 ++ [.lst false (((zi v).zip (zi r)).map fun p => Val.int (p.1 * p.2))]) := by
    rw [sum_lst (k := false) (l := ((zi v).zip (zi r)).map fun p => p.1 * p.2) (by rw [get_last, List.map_map]; rfl), dot_zi]
  exact ⟨_, ev_bi (evs_cons (ev_lc (evI_zip (evs_cons ha (evs_cons hb evs_nil)) (ss := [s1, s2]) (by
    unfold mapO
    rw [h1]
    dsimp only
    unfold mapO
    rw [h2]; rfl)) hn e2) evs_nil) hsum, l2.trans (.add _ _)⟩
theorem itlen_tt {xs ys : List Val} : itLen (.zip [.t xs, .t ys]) S = min xs.length ys.length := rfl
/-- rows small -/
theorem row_small {dd : Nat} {W : List (List Int)} (h : Iso dd W) {x : Nat} (hx : x < W.length) : ∀ y ∈ rowL W x, y ≤ dd := by
  intro y hy
  unfold rowL at hy
  obtain ⟨w, hw, rfl⟩ := List.mem_map.mp hy
  have gx : W[x]? = some W[x] := List.getElem?_eq_getElem hx
  rw [gx]
  exact Nat.le_trans (ham_le _ _) (Nat.le_of_eq (h.len _ (List.getElem_mem hx)))
theorem c_fsi {f : Nat} (hTab : tbl[f]? = some DFsi) {dd : Nat} {W : List (List Int)} (hI : Iso dd W) (hd : dd < 1000) (hl : W.length < 1000) {v : List Nat} (hv : v.length < 1000) {x : Nat} (hx : x < W.length) :
    ∃ S', C tbl (d + 1) f [tabV W, .tup (nv v), .int (x : Int)] S = some (.int (dot v (rowL W x) : Nat), S') ∧ Le S S' := by
  have hsm := row_small hI hx
  have hix : ixV (tabV W) (.int (x : Int)) S = some (.tup ((zi (rowL W x)).map .int)) := by
    show L2.atI _ (x : Int) = _
    refine at_nat ?_
    rw [List.getElem?_map, List.getElem?_range hx]; rfl
  obtain ⟨S', e, l⟩ := ev_dot (cf := C tbl d) (S := S) (i := 3) (j := 4) (a := .slot 1) (b := .idx (.slot 0) (.slot 2)) (ρ := [some (tabV W), some (.tup (nv v)), some (.int (x : Int)), none, none]) (v := v) (r := rowL W x) (s1 := .t (nv v)) (s2 := .t ((zi (rowL W x)).map .int)) rfl (ev_idx rfl rfl hix) rfl rfl (by rw [nv_zi]; exact its_t) its_t (by
    rw [itlen_tt, nv_len, List.length_map, zi_len, List.length_zip]) (by omega) (fun y hy => by have := hsm y hy; omega) (fun x y S => ⟨_, rfl, rfl, rfl⟩)
  exact ⟨S', (callF_at (F := DFsi) hTab rfl).trans (run_ret (exs_ret (ex_ret e))), l⟩
def sumsL (W : List (List Int)) (v : List Nat) : List Nat := (List.range W.length).map fun x => dot v (rowL W x)
theorem c_fs {f d0 f0 n0 r0 : Nat} (hTab : tbl[f]? = some (DFs d0 f0)) (hTd : tbl[d0]? = some (DDist n0 r0)) (hTf : tbl[f0]? = some DFsi) (hTn : tbl[n0]? = some DNeigh) (hTr : tbl[r0]? = some DRow) {dd : Nat} {W : List (List Int)} {ts : List (Nat × Nat)} (hI : Iso dd W) (hW : WebOf W ts) (hl : W.length < 64) (hd : dd < 150) {v : List Nat} (hv : v.length < 1000) :
    ∃ S', C tbl (d + 3) f [webV W.length ts, .tup (nv v)] S = some (.tup (nv (sumsL W v)), S') ∧ Kp S S' := by
  obtain ⟨S1, e1, k1⟩ := c_distW (d := d) (S := S) hTd hTn hTr hI hW hl hd
  obtain ⟨S2, e2, l2⟩ := lc_map (f := dTurn [3] (asg (C tbl (d + 2)) (.slot 3)) (ev (C tbl (d + 2)) (.k (.bl true))) (ev (C tbl (d + 2)) (.call f0 (.cons (.slot 2) (.cons (.slot 1) (.cons (.slot 3) .nil))))) [some (webV W.length ts), some (.tup (nv v)), some (tabV W), none])
    (J := .rng 0 1 W.length) (ws := List.range W.length) (t := fun i : Nat => Val.int (0 + (i : Int))) (S := S1) (fun x => some (Val.int (dot v (rowL W x) : Nat))) its_rng (by rw [List.length_range]; omega) (by
      intro x hx S' _
      have hx := List.mem_range.mp hx
      obtain ⟨S3, e3, l3⟩ := c_fsi (d := d + 1) (S := S') hTf hI (by omega) (by omega) hv hx
      exact ⟨S3, turn_yes (ρ1 := [some (webV W.length ts), some (.tup (nv v)), some (tabV W), some (.int (x : Int))]) (by rw [Int.zero_add]; rfl) (ev_call (evs_cons rfl (evs_cons rfl (evs_cons rfl evs_nil))) e3), l3⟩)
  rw [filterMap_some, List.length_range] at e2
  have em : (List.range W.length).map (fun x => Val.int (dot v (rowL W x) : Nat)) = nv (sumsL W v) := by unfold nv sumsL; rw [List.map_map]; rfl
  rw [em] at e2
  exact ⟨_, (callF_at (F := DFs d0 f0) hTab rfl).trans (run_ret (exs_nx (ex_asg (ev_call (evs_cons rfl evs_nil) e1) rfl) (exs_ret (ex_ret (ev_bi (evs_cons (ev_lc (evI_rng1 (j := (W.length : Int)) (evs_cons (ev_idx rfl rfl rfl) evs_nil) (rng_small (by omega))) (n := W.length) (Int.toNat_natCast _) e2) evs_nil) (tup_lst get_last)))))), k1.trans ((Kp.of l2).trans (.add _ _))⟩
/-- the places with the least -/
def midF (n : Nat) (g : Nat → Nat) : List Nat := (List.range n).filter fun x => decide (∀ y, y < n → g x ≤ g y)
theorem mem_mid {n x : Nat} {g : Nat → Nat} : x ∈ midF n g ↔ x < n ∧ ∀ y, y < n → g x ≤ g y := by
  unfold midF
  rw [List.mem_filter, List.mem_range, decide_eq_true_eq]
theorem min_is {n : Nat} {g : Nat → Nat} {m : Int} {x : Nat} (hx : x < n) (h1 : ∃ y, y < n ∧ m = (g y : Int)) (h2 : ∀ y, y < n → m ≤ (g y : Int)) : ((g x : Int) = m) ↔ ∀ y, y < n → g x ≤ g y := by
  constructor
  · intro e y hy
    have := h2 y hy
    omega
  · intro h
    obtain ⟨y, hy, e⟩ := h1
    have h3 := h y hy
    have h4 := h2 x hx
    omega
theorem minZ_of {n : Nat} {g : Nat → Nat} (hn : 0 < n) : ∃ x l, zi ((List.range n).map g) = x :: l ∧ (∃ y, y < n ∧ minZ x l = (g y : Int)) ∧ ∀ y, y < n → minZ x l ≤ (g y : Int) := by
  match h : zi ((List.range n).map g) with
  | [] =>
    have := congrArg List.length h
    rw [zi_len, List.length_map, List.length_range] at this
    simp at this; omega
  | x :: l =>
    obtain ⟨h1, h2⟩ := minZ_spec l x
    have mem : ∀ z : Int, z ∈ x :: l ↔ ∃ y, y < n ∧ z = (g y : Int) := by
      intro z
      rw [← h]
      unfold zi
      rw [List.map_map, List.mem_map]
      constructor
      · rintro ⟨y, hy, e⟩
        exact ⟨y, List.mem_range.mp hy, e.symm⟩
      · rintro ⟨y, hy, e⟩
        exact ⟨y, List.mem_range.mpr hy, e.symm⟩
    exact ⟨x, l, rfl, (mem _).mp h1, fun y hy => h2 _ ((mem _).mpr ⟨y, hy, rfl⟩)⟩
theorem c_mid {f s0 d0 f0 n0 r0 : Nat} (hTab : tbl[f]? = some (DMid s0)) (hTs : tbl[s0]? = some (DFs d0 f0)) (hTd : tbl[d0]? = some (DDist n0 r0)) (hTf : tbl[f0]? = some DFsi) (hTn : tbl[n0]? = some DNeigh) (hTr : tbl[r0]? = some DRow) {dd : Nat} {W : List (List Int)} {ts : List (Nat × Nat)} (hI : Iso dd W) (hW : WebOf W ts) (hl : W.length < 64) (hn : W ≠ []) (hd : dd < 150) {v : List Nat} (hv : v.length < 1000) :
    ∃ S', C tbl (d + 4) f [webV W.length ts, .tup (nv v)] S = some (.tup (nv (midF W.length fun x => dot v (rowL W x))), S') ∧ Kp S S' := by
  obtain ⟨S1, e1, k1⟩ := c_fs (d := d) (S := S) hTs hTd hTf hTn hTr hI hW hl hd hv
  have h0 : 0 < W.length := List.length_pos_iff.mpr hn
  obtain ⟨x0, l0, em, m1, m2⟩ := minZ_of (n := W.length) (g := fun x => dot v (rowL W x)) h0
  have hmin : ∀ T, biV .min [.tup (nv (sumsL W v))] T = some (.int (minZ x0 l0), T) := fun T => by
    rw [nv_zi]
    unfold sumsL
    rw [em]
    exact min_tup
  have hits : Its (.enum (.t (nv (sumsL W v)))) ((List.range W.length).map fun x : Nat => Val.tup [.int (x : Int), .int (dot v (rowL W x) : Nat)]) S1 := by
    have h := its_enum (its_t (xs := nv (sumsL W v)) (S := S1))
    have e : enumV (nv (sumsL W v)) = (List.range W.length).map fun x : Nat => Val.tup [.int (x : Int), .int (dot v (rowL W x) : Nat)] := by
      refine List.ext_getElem? fun i => ?_
      unfold enumV
      rw [List.getElem?_map, List.getElem?_zipIdx, List.getElem?_map]
      unfold nv sumsL
      rw [List.map_map, List.getElem?_map]
      by_cases hi : i < W.length
      · rw [List.getElem?_range hi]
        simp
      · rw [List.getElem?_eq_none (by simp; omega)]; rfl
    rwa [e] at h
  obtain ⟨S2, e2, l2⟩ := lc_map (f := dTurn [3, 4] (asg (C tbl (d + 3)) (.tup (.cons (.slot 3) (.cons (.slot 4) .nil)))) (ev (C tbl (d + 3)) (.cmp .eq (.slot 4) (.bi .min (.cons (.slot 2) .nil)))) (ev (C tbl (d + 3)) (.slot 3)) [some (webV W.length ts), some (.tup (nv v)), some (.tup (nv (sumsL W v))), none, none])
    (J := .enum (.t (nv (sumsL W v)))) (ws := List.range W.length) (t := fun x : Nat => Val.tup [.int (x : Int), .int (dot v (rowL W x) : Nat)]) (S := S1) (fun x => if decide (∀ y, y < W.length → dot v (rowL W x) ≤ dot v (rowL W y)) = true then some (Val.int (x : Int)) else none) hits (by rw [List.length_range]; omega) (by
      intro x hx S' _
      have hx := List.mem_range.mp hx
      have t : ev (C tbl (d + 3)) (.cmp .eq (.slot 4) (.bi .min (.cons (.slot 2) .nil))) [some (webV W.length ts), some (.tup (nv v)), some (.tup (nv (sumsL W v))), some (.int (x : Int)), some (.int (dot v (rowL W x) : Nat))] S' = some (.bl (decide (∀ y, y < W.length → dot v (rowL W x) ≤ dot v (rowL W y))), S') := by
        refine ev_cmp rfl (ev_bi (evs_cons rfl evs_nil) (hmin _)) ?_
        rw [eq_int]
        congr 1
        rw [decide_eq_decide]
        exact min_is (g := fun x => dot v (rowL W x)) hx m1 m2
      by_cases h : decide (∀ y, y < W.length → dot v (rowL W x) ≤ dot v (rowL W y)) = true
      · rw [if_pos h]
        rw [h] at t
        exact ⟨S', turn_t rfl t rfl, .refl _⟩
      · rw [if_neg h]
        rw [Bool.eq_false_iff.mpr h] at t
        exact ⟨S', turn_f rfl t, .refl _⟩)
  rw [filterMap_if, List.length_range] at e2
  exact ⟨_, (callF_at (F := DMid s0) hTab rfl).trans (run_ret (exs_nx (ex_asg (ev_call (evs_cons rfl (evs_cons rfl evs_nil)) e1) rfl) (exs_ret (ex_ret (ev_bi (evs_cons (ev_lc (evI_enum rfl rfl) (n := W.length) (show (nv (sumsL W v)).length = _ by rw [nv_len, sumsL, List.length_map, List.length_range]) e2) evs_nil) (tup_lst get_last)))))), k1.trans ((Kp.of l2).trans (.add _ _))⟩
end CG

/-! CG10: votes. -/
namespace CG
open Rf Cm
variable {tbl : List FD} {d : Nat} {S : Store}
def addL (v w : List Nat) : List Nat := (v.zip w).map fun p => p.1 + p.2
theorem zipN (v w : List Nat) : List.zipWith (fun x y => Val.tup [x, y]) (nv v) (nv w) = (v.zip w).map fun p => Val.tup [.int (p.1 : Int), .int (p.2 : Int)] := by
  rw [nv_zi, nv_zi, zipW, zip_zi, List.map_map]; rfl
theorem c_put {f : Nat} (hTab : tbl[f]? = some DPut) {v w : List Nat} (hv : v.length < 1000) : ∃ S', C tbl (d + 1) f [.tup (nv v), .tup (nv w)] S = some (.tup (nv (addL v w)), S') ∧ Le S S' := by
  obtain ⟨S2, e2, l2⟩ := lc_map (f := dTurn [2, 3] (asg (C tbl d) (.tup (.cons (.slot 2) (.cons (.slot 3) .nil)))) (ev (C tbl d) (.k (.bl true))) (ev (C tbl d) (.bin .add (.slot 2) (.slot 3))) [some (.tup (nv v)), some (.tup (nv w)), none, none])
    (J := .zip [.t (nv v), .t (nv w)]) (ws := v.zip w) (t := fun p => Val.tup [.int (p.1 : Int), .int (p.2 : Int)]) (S := S) (fun p => some (Val.int ((p.1 + p.2 : Nat) : Int))) (by rw [← zipN]; exact its_zip2 its_t its_t) (by rw [List.length_zip]; omega) (by
      intro p _ S' _
      exact ⟨S', turn_yes (ρ1 := [some (.tup (nv v)), some (.tup (nv w)), some (.int (p.1 : Int)), some (.int (p.2 : Int))]) rfl (ev_bin rfl rfl nadd), .refl _⟩)
  rw [filterMap_some] at e2
  have em : (v.zip w).map (fun p => Val.int ((p.1 + p.2 : Nat) : Int)) = nv (addL v w) := by unfold nv addL; rw [List.map_map]; rfl
  rw [em] at e2
  exact ⟨_, (callF_at (F := DPut) hTab rfl).trans (run_ret (exs_ret (ex_ret (ev_bi (evs_cons (ev_lc (evI_zip (evs_cons rfl (evs_cons rfl evs_nil)) rfl) (show min (nv v).length (nv w).length = (v.zip w).length by rw [nv_len, nv_len, List.length_zip]) e2) evs_nil) (tup_lst get_last))))), l2.trans (.add _ _)⟩
/-- _law_far -/
theorem c_far {f : Nat} (hTab : tbl[f]? = some DFar) {dd : Nat} {W : List (List Int)} (hI : Iso dd W) (hd : dd < 1000) (hl : W.length < 1000) {v : List Nat} (hv : v.length < 1000) {r : Nat} (hr : NearOk S r W.length (rowL W)) :
    ∃ q S', C tbl (d + 1) f [.ref r, .tup (nv v)] S = some (.ref q, S') ∧ Le S S' ∧ S'[q]? = some (.lst false ((zi (sumsL W v)).map .int)) := by
  obtain ⟨rs, h1, h2, h3⟩ := hr
  obtain ⟨S2, e2, l2⟩ := lc_map (f := dTurn [2] (asg (C tbl d) (.slot 2)) (ev (C tbl d) (.k (.bl true))) (ev (C tbl d) (.bi .sum (.cons (.lc (.bin .mul (.slot 3) (.slot 4)) (.tup (.cons (.slot 3) (.cons (.slot 4) .nil))) (.zip (.cons (.slot 1) (.cons (.slot 2) .nil))) (.k (.bl true)) [3, 4]) .nil))) [some (.ref r), some (.tup (nv v)), none, none, none])
    (J := .seq (.l r)) (ws := List.range W.length) (t := fun x : Nat => Val.ref (rs[x]?.getD 0)) (S := S) (fun x => some (Val.int (dot v (rowL W x) : Nat))) (by
      have h := its_l (S := S) h1
      have e : rs.map Val.ref = (List.range W.length).map fun x : Nat => Val.ref (rs[x]?.getD 0) := by
        refine List.ext_getElem? fun i => ?_
        rw [List.getElem?_map, List.getElem?_map]
        by_cases hi : i < W.length
        · rw [List.getElem?_range hi, List.getElem?_eq_getElem (by omega)]
          simp [List.getElem?_eq_getElem (show i < rs.length by omega)]
        · rw [List.getElem?_eq_none (by omega), List.getElem?_eq_none (by simp; omega)]; rfl
      rwa [e] at h) (by rw [List.length_range]; omega) (by
      intro x hx S' l
      have hx := List.mem_range.mp hx
      obtain ⟨c, hc1, hc2⟩ := h3 x hx
      rw [hc1]
      have hsm := row_small hI hx
      have gc := l.get hc2
      obtain ⟨S3, e3, l3⟩ := ev_dot (cf := C tbl d) (S := S') (i := 3) (j := 4) (a := .slot 1) (b := .slot 2) (ρ := [some (.ref r), some (.tup (nv v)), some (.ref c), none, none]) (v := v) (r := rowL W x) (s1 := .t (nv v)) (s2 := .l c) rfl rfl rfl (src_l gc) (by rw [nv_zi]; exact its_t) (its_l gc) (by
        show min (nv v).length (srcLen (.l c) S') = _
        rw [nv_len, srcLen_l gc, List.length_map, zi_len, List.length_zip]) (by omega) (fun y hy => by have := hsm y hy; omega) (fun x y S => ⟨_, rfl, rfl, rfl⟩)
      exact ⟨S3, turn_yes (ρ1 := [some (.ref r), some (.tup (nv v)), some (.ref c), none, none]) rfl e3, l3⟩)
  rw [filterMap_some, List.length_range] at e2
  have em : (List.range W.length).map (fun x => Val.int (dot v (rowL W x) : Nat)) = (zi (sumsL W v)).map .int := by unfold zi sumsL; rw [List.map_map, List.map_map]; rfl
  rw [em] at e2
  exact ⟨S2.length, _, (callF_at (F := DFar) hTab rfl).trans (run_ret (exs_ret (ex_ret (ev_lc (evI_ex rfl (src_l h1)) (n := W.length) (by rw [itLen_l h1, List.length_map, h2]) e2)))), l2.trans (.add _ _), get_last⟩
theorem nats_of {b : Nat} : ∀ {ys : List Val}, (∀ y ∈ ys, ∃ m : Nat, m < b ∧ y = .int (m : Int)) → ∃ l : List Nat, ys = nv l ∧ ∀ x ∈ l, x < b
  | [], _ => ⟨[], rfl, fun x h => by cases h⟩
  | y :: ys, h => by
    obtain ⟨l, rfl, hl⟩ := nats_of (b := b) fun z hz => h z (List.mem_cons_of_mem _ hz)
    obtain ⟨m, hm, rfl⟩ := h y List.mem_cons_self
    refine ⟨m :: l, rfl, fun x hx => ?_⟩
    rcases List.mem_cons.mp hx with rfl | hx
    · exact hm
    · exact hl x hx
/-- _law_votes -/
theorem c_votes {f p : Nat} (hTab : tbl[f]? = some (DVotes p)) (hp : tbl[p]? = some DPickG) {n : Nat} (hs : SrcOk S) (hn : 1 ≤ n) (hn2 : n < 1000) :
    ∃ v S', C tbl (d + 2) f [.ref 3, .int (n : Int)] S = some (.tup (nv v), S') ∧ Fr S S' ∧ v.length = n ∧ ∀ x ∈ v, x < 64 := by
  obtain ⟨k, S1, hk, e1, f1⟩ := c_pgn (d := d) hp (m := 3) hs (by decide) (by decide)
  have i0 : ex (C tbl (d + 1)) 200 (bnth (DVotes p).body 0) (startE (DVotes p) [.ref 3, .int (n : Int)]) S = some (.nx, [some (.ref 3), some (.int (n : Int)), some (.int (k : Int)), none, none], S1) := ex_asg (ev_call (evs_cons rfl (evs_cons rfl evs_nil)) e1) rfl
  obtain ⟨m, hm, hm1, hm2⟩ : ∃ m : Nat, ([.int 2, .int 4, .int 30] : List Val)[k]? = some (.int (m : Int)) ∧ 1 ≤ m ∧ m ≤ 30 := by
    match k, hk with
    | 0, _ => exact ⟨2, rfl, by decide, by decide⟩
    | 1, _ => exact ⟨4, rfl, by decide, by decide⟩
    | 2, _ => exact ⟨30, rfl, by decide, by decide⟩
  obtain ⟨ys, S2, e2, f2, hyl, hy⟩ := lc_inv (f := dTurn [4] (asg (C tbl (d + 1)) (.slot 4)) (ev (C tbl (d + 1)) (.k (.bl true))) (ev (C tbl (d + 1)) (.call p (.cons (.slot 0) (.cons (.idx (.lst (.cons (.k (.int 2)) (.cons (.k (.int 4)) (.cons (.k (.int 30)) .nil)))) (.slot 2)) .nil)))) [some (.ref 3), some (.int (n : Int)), some (.int (k : Int)), none, none])
    (J := .rng 0 1 n) (vs := (List.range n).map fun i : Nat => .int (0 + (i : Int))) (S := S1) (Fr S1) (fun y => ∃ m : Nat, m < 31 ∧ y = .int (m : Int)) (Fr.le f1.src (.refl _)) (fun i S' _ => its_rng S' (.refl _) i) (by rw [List.length_map, List.length_range]; omega) (by
      intro v _ S' fr
      have fA := fr.le2 (Le.add S' [Rf.Obj.lst false [.int 2, .int 4, .int 30]])
      obtain ⟨j, S3, hj, e3, f3⟩ := c_pgn (d := d) hp (m := m) fA.src hm1 (by omega)
      exact ⟨_, S3, turn_yes (ρ1 := [some (.ref 3), some (.int (n : Int)), some (.int (k : Int)), none, some v]) rfl (ev_call (evs_cons rfl (evs_cons (ev_idx (ev_lst (evs_cons rfl (evs_cons rfl (evs_cons rfl evs_nil))) (show 3 ≤ 1000000 by decide)) rfl (ix_lst get_last (at_nat hm))) evs_nil)) e3), fA.trans f3, j, by omega, rfl⟩)
  rw [List.length_map, List.length_range] at e2 hyl
  obtain ⟨v, rfl, hv⟩ := nats_of hy
  rw [nv_len] at hyl
  have f12 := f1.trans f2
  have i1 : ex (C tbl (d + 1)) 200 (bnth (DVotes p).body 1) [some (.ref 3), some (.int (n : Int)), some (.int (k : Int)), none, none] S1 = some (.nx, [some (.ref 3), some (.int (n : Int)), some (.int (k : Int)), some (.ref S2.length), none], S2 ++ [.lst false (nv v)]) :=
    ex_asg (ev_lc (evI_rng1 (j := (n : Int)) (evs_cons rfl evs_nil) (rng_small (by omega))) (n := n) (Int.toNat_natCast _) e2) rfl
  have fA := f12.le2 (Le.add S2 [Rf.Obj.lst false (nv v)])
  have gA : (S2 ++ [Rf.Obj.lst false (nv v)])[S2.length]? = some (.lst false (nv v)) := get_last
  have h4 := src_len4 f12.src
  have hSl := f12.keep
  generalize (S2 ++ [Rf.Obj.lst false (nv v)]) = SA at i1 fA gA
  have hlo : S.length ≤ S2.length := by
    apply Nat.le_of_not_lt
    intro hl
    have h5 := src_len4 hs
    have := hSl S2.length _ (by omega) (by omega) (List.getElem?_eq_getElem hl)
    rw [List.getElem?_eq_none (Nat.le_refl _)] at this
    cases this
  generalize S2.length = vr at i1 gA h4 hlo
  obtain ⟨x, S3, hx, e3, f3⟩ := c_pgn (d := d) hp (m := n) fA.src hn (by omega)
  have g3 := f3.keep vr _ (by omega) (by omega) gA
  have fr3 := fA.trans f3
  have i2 : ex (C tbl (d + 1)) 200 (bnth (DVotes p).body 2) [some (.ref 3), some (.int (n : Int)), some (.int (k : Int)), some (.ref vr), none] SA = some (.nx, [some (.ref 3), some (.int (n : Int)), some (.int (k : Int)), some (.ref vr), some (.int (x : Int))], S3) := ex_asg (ev_call (evs_cons rfl (evs_cons rfl evs_nil)) e3) rfl
  have gx : v[x]? = some v[x] := List.getElem?_eq_getElem (by omega)
  have hvx := hv v[x] (List.getElem_mem _)
  generalize v[x] = vx at gx hvx
  have hix : ixV (.ref vr) (.int (x : Int)) S3 = some (.int (vx : Int)) := ix_lst g3 (at_nat (by rw [nv, List.getElem?_map, gx]; rfl))
  obtain ⟨b, hb, em⟩ : ∃ b : Nat, b ≤ 1 ∧ ev (C tbl (d + 1)) (.bi .int (.cons (.cmp .eq (.bi .max (.cons (.slot 3) .nil)) (.k (.int 0))) .nil)) [some (.ref 3), some (.int (n : Int)), some (.int (k : Int)), some (.ref vr), some (.int (x : Int))] S3 = some (.int (b : Int), S3) := by
    have hmax : ∃ z : Int, biV .max [.ref vr] S3 = some (.int z, S3) := by
      match hvv : zi v with
      | [] =>
        have := congrArg List.length hvv
        rw [zi_len, List.length_nil] at this
        omega
      | z :: l =>
        refine ⟨maxI z l, ?_⟩
        have g4 := g3
        rw [nv_zi, hvv] at g4
        simp only [biV, g4]
        rw [ints_sum]
    obtain ⟨z, hz⟩ := hmax
    by_cases h : z = 0
    · refine ⟨1, Nat.le_refl _, ev_bi (evs_cons (ev_cmp (ev_bi (evs_cons rfl evs_nil) hz) rfl eq_int) evs_nil) ?_⟩
      rw [decide_eq_true h]; rfl
    · refine ⟨0, Nat.zero_le _, ev_bi (evs_cons (ev_cmp (ev_bi (evs_cons rfl evs_nil) hz) rfl eq_int) evs_nil) ?_⟩
      rw [decide_eq_false h]; rfl
  have hset : setV (.ref vr) (.int (x : Int)) (.int ((vx + b : Nat) : Int)) S3 = some (S3.set vr (.lst false (nv (v.set x (vx + b))))) := by
    have hi : L2.ixN (nv v).length (x : Int) = some x := ixn_nat (by rw [nv_len]; omega)
    have e : (nv v).set x (.int ((vx + b : Nat) : Int)) = nv (v.set x (vx + b)) := by
      unfold nv
      rw [List.map_set]
    simp only [setV, g3, hi, e]
  have i3 : ex (C tbl (d + 1)) 200 (bnth (DVotes p).body 3) [some (.ref 3), some (.int (n : Int)), some (.int (k : Int)), some (.ref vr), some (.int (x : Int))] S3 = some (.nx, [some (.ref 3), some (.int (n : Int)), some (.int (k : Int)), some (.ref vr), some (.int (x : Int))], S3.set vr (.lst false (nv (v.set x (vx + b))))) :=
    ex_asg (ev_bin (ev_idx rfl rfl hix) em nadd) (asg_sub rfl rfl hset)
  refine ⟨v.set x (vx + b), _, (callF_at (F := DVotes p) hTab rfl).trans (run_ret (exs_nx i0 (exs_nx i1 (exs_nx i2 (exs_nx i3 (exs_ret (ex_ret (ev_bi (evs_cons rfl evs_nil) (tup_lst (set_at g3)))))))))), ⟨?_, fun j o h2 h3 hj => ?_⟩, by rw [List.length_set]; exact hyl, fun y hy => ?_⟩
  · obtain ⟨cs, l, m, t, s3, s2, sl⟩ := fr3.src
    exact ⟨cs, l, m, t, by rw [set_ne (by omega)]; exact s3, by rw [set_ne (by omega)]; exact s2, sl⟩
  · have := (List.getElem?_eq_some_iff.mp hj).1
    rw [set_ne (by omega)]
    exact fr3.keep j o h2 h3 hj
  · rcases List.mem_or_eq_of_mem_set hy with h | h
    · have := hv y h
      omega
    · omega
end CG

/-! CG11: plainly: middles of votes put together, more voters, places called otherwise. -/
namespace CG
open Rf
/-! ### sums -/
theorem dot_cons {x y : Nat} {v r : List Nat} : dot (x :: v) (y :: r) = x * y + dot v r := by
  unfold dot
  rw [List.zip_cons_cons, List.map_cons, List.sum_cons]
theorem dot_add : ∀ {v w r : List Nat}, v.length = w.length → dot (addL v w) r = dot v r + dot w r
  | [], [], r, _ => rfl
  | x :: v, y :: w, [], _ => rfl
  | x :: v, y :: w, z :: r, h => by
    have ih := dot_add (v := v) (w := w) (r := r) (by simpa using h)
    have e : addL (x :: v) (y :: w) = (x + y) :: addL v w := rfl
    rw [e, dot_cons, dot_cons, dot_cons, ih, Nat.add_mul]
    omega
  | [], _ :: _, _, h => by cases h
  | _ :: _, [], _, h => by cases h
theorem addL_len {v w : List Nat} (h : v.length = w.length) : (addL v w).length = v.length := by
  unfold addL
  rw [List.length_map, List.length_zip, h, Nat.min_self]
def at0n (v : List Nat) (y : Nat) : Nat := v[y]?.getD 0
theorem self_map {α : Type} (v : List α) (z : α) : v = (List.range v.length).map fun y => v[y]?.getD z := by
  refine List.ext_getElem? fun i => ?_
  rw [List.getElem?_map]
  by_cases h : i < v.length
  · rw [List.getElem?_range h, List.getElem?_eq_getElem h]
    simp [List.getElem?_eq_getElem h]
  · rw [List.getElem?_eq_none (by omega), List.getElem?_eq_none (by simp; omega)]; rfl
theorem dot_map (l : List Nat) (a b : Nat → Nat) : dot (l.map a) (l.map b) = (l.map fun y => a y * b y).sum := by
  induction l with
  | nil => rfl
  | cons x l ih => rw [List.map_cons, List.map_cons, dot_cons, ih, List.map_cons, List.sum_cons]
def hamAt (W : List (List Int)) (x y : Nat) : Nat := ham (W[x]?.getD []) (W[y]?.getD [])
theorem rowL_map (W : List (List Int)) (x : Nat) : rowL W x = (List.range W.length).map fun y => hamAt W x y := by
  refine List.ext_getElem? fun i => ?_
  unfold rowL
  rw [List.getElem?_map, List.getElem?_map]
  by_cases h : i < W.length
  · rw [List.getElem?_range h, List.getElem?_eq_getElem h, Option.map_some, Option.map_some]
    unfold hamAt
    rw [List.getElem?_eq_getElem h]; rfl
  · rw [List.getElem?_eq_none (l := W) (i := i) (by omega), List.getElem?_eq_none (l := List.range W.length) (i := i) (by simp; omega)]; rfl
theorem dot_row {W : List (List Int)} {v : List Nat} (hv : v.length = W.length) (x : Nat) : dot v (rowL W x) = ((List.range W.length).map fun y => at0n v y * hamAt W x y).sum := by
  have e : v = (List.range W.length).map fun y => at0n v y := by
    have := self_map v 0
    rw [hv] at this
    exact this
  rw [rowL_map]
  conv => lhs; rw [e]
  rw [dot_map]
theorem sum_ind (n x : Nat) (b : Nat → Nat) : ((List.range n).map fun y => (if y = x then 1 else 0) * b y).sum = if x < n then b x else 0 := by
  induction n with
  | zero => rfl
  | succ n ih =>
    rw [List.range_succ, List.map_append, List.sum_append, ih]
    simp only [List.map_cons, List.map_nil, List.sum_cons, List.sum_nil, Nat.add_zero]
    by_cases h : n = x
    · subst h
      rw [if_neg (Nat.lt_irrefl _), if_pos rfl, if_pos (by omega)]
      omega
    · rw [if_neg h]
      by_cases h2 : x < n
      · rw [if_pos h2, if_pos (by omega)]; omega
      · rw [if_neg h2, if_neg (by omega)]; omega
theorem sum_map_add (l : List Nat) (a b : Nat → Nat) : (l.map fun y => a y + b y).sum = (l.map a).sum + (l.map b).sum := by
  induction l with
  | nil => rfl
  | cons x l ih => simp only [List.map_cons, List.sum_cons, ih]; omega
/-- one voter more -/
def moreL (v : List Nat) (x : Nat) : List Nat := (List.range v.length).map fun y => at0n v y + if y = x then 1 else 0
theorem moreL_len (v : List Nat) (x : Nat) : (moreL v x).length = v.length := by simp [moreL]
theorem at_more {v : List Nat} {x y : Nat} (hy : y < v.length) : at0n (moreL v x) y = at0n v y + if y = x then 1 else 0 := by
  show (moreL v x)[y]?.getD 0 = _
  unfold moreL
  rw [List.getElem?_map, List.getElem?_range hy]; rfl
theorem dot_more {W : List (List Int)} {v : List Nat} {x y : Nat} (hv : v.length = W.length) (hx : x < W.length) : dot (moreL v x) (rowL W y) = dot v (rowL W y) + hamAt W y x := by
  rw [dot_row (by rw [moreL_len, hv]), dot_row hv]
  have e : (List.range W.length).map (fun z => at0n (moreL v x) z * hamAt W y z) = (List.range W.length).map fun z => at0n v z * hamAt W y z + (if z = x then 1 else 0) * hamAt W y z := by
    refine List.map_congr_left fun z hz => ?_
    rw [at_more (by rw [hv]; exact List.mem_range.mp hz), Nat.add_mul]
  rw [e, sum_map_add, sum_ind, if_pos hx]
theorem hamAt_zero {dd : Nat} {W : List (List Int)} (h : Iso dd W) {x y : Nat} (hx : x < W.length) (hy : y < W.length) : hamAt W x y = 0 ↔ x = y := by
  have gx : W[x]? = some W[x] := List.getElem?_eq_getElem hx
  have gy : W[y]? = some W[y] := List.getElem?_eq_getElem hy
  unfold hamAt
  constructor
  · intro q
    rw [gx, gy] at q
    have := ham_zero ((h.len _ (List.getElem_mem hx)).trans (h.len _ (List.getElem_mem hy)).symm) q
    exact nd_get h.nd gx (by rw [gy, ← this])
  · rintro rfl
    exact ham_self _
/-! ### middles -/
theorem rng_one {n x : Nat} (hx : x < n) {p : Nat → Bool} (hp : ∀ y, y < n → (p y = true ↔ y = x)) : (List.range n).filter p = [x] := by
  have e : (List.range n).filter p = (List.range n).filter fun y => decide (y = x) := by
    refine List.filter_congr fun y hy => ?_
    rw [Bool.eq_iff_iff, hp y (List.mem_range.mp hy), decide_eq_true_eq]
  rw [e]
  have : ∀ m, (List.range m).filter (fun b => decide (b = x)) = if x < m then [x] else [] := by
    intro m
    induction m with
    | zero => rfl
    | succ m ih =>
      rw [List.range_succ, List.filter_append, ih]
      by_cases h : m = x
      · subst h; simp
      · have h2 : (x < m + 1) ↔ (x < m) := by omega
        simp [h, h2]
  rw [this, if_pos hx]
theorem mid_one {n x : Nat} {g : Nat → Nat} (hx : x < n) (h : ∀ y, y < n → y ≠ x → g x < g y) : midF n g = [x] := by
  refine rng_one hx fun y hy => ?_
  rw [decide_eq_true_eq]
  constructor
  · intro q
    apply Classical.byContradiction
    intro hne
    have := h y hy hne
    have := q x hx
    omega
  · rintro rfl z hz
    by_cases e : z = y
    · rw [e]; exact Nat.le_refl _
    · exact Nat.le_of_lt (h z hz e)
theorem mid_congr {n : Nat} {g h : Nat → Nat} (e : ∀ x, x < n → g x = h x) : midF n g = midF n h := by
  refine List.filter_congr fun x hx => ?_
  have hx := List.mem_range.mp hx
  rw [decide_eq_decide]
  constructor
  · intro q y hy
    rw [← e x hx, ← e y hy]; exact q y hy
  · intro q y hy
    rw [e x hx, e y hy]; exact q y hy
/-- two votes together: the common middles, where there are any -/
theorem mid_both {n : Nat} {f g : Nat → Nat} (h : (midF n f).filter (fun x => decide (x ∈ midF n g)) ≠ []) : midF n (fun x => f x + g x) = (midF n f).filter fun x => decide (x ∈ midF n g) := by
  obtain ⟨c, hc⟩ := List.exists_mem_of_ne_nil _ h
  rw [List.mem_filter, decide_eq_true_eq, mem_mid, mem_mid] at hc
  obtain ⟨⟨hc, c1⟩, _, c2⟩ := hc
  unfold midF
  rw [List.filter_filter]
  refine List.filter_congr fun x hx => ?_
  have hx := List.mem_range.mp hx
  have e : decide (x ∈ (List.range n).filter fun x => decide (∀ y, y < n → g x ≤ g y)) = decide (∀ y, y < n → g x ≤ g y) := by
    rw [decide_eq_decide, List.mem_filter, List.mem_range, decide_eq_true_eq]
    exact ⟨fun q => q.2, fun q => ⟨hx, q⟩⟩
  rw [e, Bool.eq_iff_iff, Bool.and_eq_true, decide_eq_true_eq, decide_eq_true_eq, decide_eq_true_eq]
  constructor
  · intro q
    have h0 : f x + g x ≤ f c + g c := q c hc
    have h1 := c1 x hx
    have h2 := c2 x hx
    refine ⟨fun y hy => ?_, fun y hy => ?_⟩
    · have := c2 y hy
      omega
    · have := c1 y hy
      omega
  · rintro ⟨q1, q2⟩ y hy
    have h1 := q1 y hy
    have h2 := q2 y hy
    show f x + g x ≤ f y + g y
    omega
theorem mid_twice {n : Nat} {f : Nat → Nat} : midF n (fun x => f x + f x) = midF n f := by
  refine List.filter_congr fun x _ => ?_
  rw [decide_eq_decide]
  constructor
  · intro q y hy
    have h : f x + f x ≤ f y + f y := q y hy
    omega
  · intro q y hy
    have h := q y hy
    show f x + f x ≤ f y + f y
    omega
/-- one voter more at a middle: it alone -/
theorem mid_more {dd : Nat} {W : List (List Int)} (h : Iso dd W) {v : List Nat} (hv : v.length = W.length) {x : Nat} (hx : x ∈ midF W.length fun y => dot v (rowL W y)) : midF W.length (fun y => dot (moreL v x) (rowL W y)) = [x] := by
  obtain ⟨hx, hm⟩ := mem_mid.mp hx
  refine mid_one hx fun y hy hne => ?_
  rw [dot_more hv hx, dot_more hv hx, (hamAt_zero h hx hx).mpr rfl]
  have h1 := hm y hy
  have h2 : hamAt W y x ≠ 0 := fun q => hne ((hamAt_zero h hy hx).mp q)
  omega
/-- one voter alone -/
def aloneL (n k : Nat) : List Nat := (List.range n).map fun y => if y = k then 1 else 0
theorem mid_alone {dd : Nat} {W : List (List Int)} (h : Iso dd W) {k : Nat} (hk : k < W.length) : midF W.length (fun y => dot (aloneL W.length k) (rowL W y)) = [k] := by
  have e : ∀ y, dot (aloneL W.length k) (rowL W y) = hamAt W y k := by
    intro y
    unfold aloneL
    rw [rowL_map, dot_map, sum_ind, if_pos hk]
  refine mid_one hk fun y hy hne => ?_
  rw [e, e, (hamAt_zero h hk hk).mpr rfl]
  have h2 : hamAt W y k ≠ 0 := fun q => hne ((hamAt_zero h hy hk).mp q)
  omega
/-! ### places called otherwise -/
def called (W : List (List Int)) (ns : List Nat) : List (List Int) := ns.map fun x => W[x]?.getD []
theorem called_perm {W : List (List Int)} {ns : List Nat} (p : ns.Perm (List.range W.length)) : (called W ns).Perm W := by
  have h := p.map fun x => W[x]?.getD []
  rwa [← self_map W []] at h
theorem called_len {W : List (List Int)} {ns : List Nat} (p : ns.Perm (List.range W.length)) : (called W ns).length = W.length := (called_perm p).length_eq
theorem names_len {n : Nat} {ns : List Nat} (p : ns.Perm (List.range n)) : ns.length = n := by rw [p.length_eq, List.length_range]
theorem called_dot {W : List (List Int)} {ns : List Nat} (p : ns.Perm (List.range W.length)) {v : List Nat} (hv : v.length = W.length) {i x : Nat} (hi : ns[i]? = some x) : dot (ns.map (at0n v)) (rowL (called W ns) i) = dot v (rowL W x) := by
  have e : rowL (called W ns) i = ns.map fun y => hamAt W x y := by
    unfold rowL called
    rw [List.map_map, List.getElem?_map, hi]; rfl
  rw [e, dot_map, dot_row hv]
  exact (p.map fun y => at0n v y * hamAt W x y).sum_nat
theorem called_mid {W : List (List Int)} {ns : List Nat} (p : ns.Perm (List.range W.length)) {v : List Nat} (hv : v.length = W.length) :
    sortI (zi ((midF W.length fun i => dot (ns.map (at0n v)) (rowL (called W ns) i)).map fun i => ns[i]?.getD 0)) = zi (midF W.length fun x => dot v (rowL W x)) := by
  have nd : ns.Nodup := p.nodup_iff.mpr List.nodup_range
  have hl := names_len p
  have at_ : ∀ i, i < W.length → ∃ x, ns[i]? = some x ∧ x < W.length := fun i hi => by
    have g : ns[i]? = some ns[i] := List.getElem?_eq_getElem (by omega)
    exact ⟨_, g, List.mem_range.mp (p.mem_iff.mp (List.mem_of_getElem? g))⟩
  have back : ∀ x, x < W.length → ∃ i, i < W.length ∧ ns[i]? = some x := fun x hx => by
    obtain ⟨i, hi, e⟩ := List.getElem_of_mem (p.mem_iff.mpr (List.mem_range.mpr hx))
    exact ⟨i, by omega, by rw [List.getElem?_eq_getElem hi, e]⟩
  unfold midF
  refine sort_nat ?_ fun b => ?_
  · refine List.nodup_iff_pairwise_ne.mpr (List.pairwise_map.mpr ?_)
    have h0 := List.nodup_iff_pairwise_ne.mp (range_filter_nd W.length fun i => decide (∀ y, y < W.length → dot (ns.map (at0n v)) (rowL (called W ns) i) ≤ dot (ns.map (at0n v)) (rowL (called W ns) y)))
    refine h0.imp_of_mem fun {a b} ha hb hne q => hne ?_
    obtain ⟨xa, ga, _⟩ := at_ a (List.mem_range.mp (List.mem_filter.mp ha).1)
    obtain ⟨xb, gb, _⟩ := at_ b (List.mem_range.mp (List.mem_filter.mp hb).1)
    rw [ga, gb] at q
    have : xa = xb := q
    subst this
    exact nd_get nd ga gb
  · simp only [List.mem_map, List.mem_filter, List.mem_range, decide_eq_true_eq]
    constructor
    · rintro ⟨i, ⟨hi, hm⟩, rfl⟩
      obtain ⟨x, gx, hx⟩ := at_ i hi
      rw [gx]
      refine ⟨hx, fun y hy => ?_⟩
      obtain ⟨j, hj, gj⟩ := back y hy
      have := hm j hj
      rw [called_dot p hv gx, called_dot p hv gj] at this
      exact this
    · rintro ⟨hb, hm⟩
      obtain ⟨i, hi, gi⟩ := back b hb
      refine ⟨i, ⟨hi, fun j hj => ?_⟩, by rw [gi]; rfl⟩
      obtain ⟨y, gy, hy⟩ := at_ j hj
      rw [called_dot p hv gi, called_dot p hv gy]
      exact hm y hy
end CG

/-! CG12: webs shown, small things. -/
namespace CG
open Rf Cm
variable {S : Store}
def webD (n : Nat) (ts : List (Nat × Nat)) : PySem.PyData := .tuple [.int (n : Int), .tuple (dws (ts.map pz))]
theorem dat_web {n : Nat} {ts : List (Nat × Nat)} : Rf.dataOf S (webV n ts) = some (webD n ts) := by
  have h := toD_web (k := 16) (S := S) (ts := ts.map pz) (n := (n : Int))
  rw [← zi_pz] at h
  exact h
theorem ok_webD {n : Nat} {ts : List (Nat × Nat)} (hn : n < 1000) (ht : ∀ t ∈ ts, t.1 < 1000 ∧ t.2 < 1000) (hl : ts.length ≤ 5000) : okD (webD n ts) = true := by
  obtain ⟨g1, g2, g3⟩ := dws_good (ts.map pz) (by
    intro w hw
    obtain ⟨t, ht', rfl⟩ := List.mem_map.mp hw
    have := ht t ht'
    refine ⟨show 2 ≤ 20 by decide, fun x hx => ?_⟩
    simp only [pz, List.mem_cons, List.not_mem_nil, or_false] at hx
    rcases hx with rfl | rfl <;> omega)
  have g4 := sum_len (ts.map pz) 2 (by
    intro w hw
    obtain ⟨t, _, rfl⟩ := List.mem_map.mp hw
    exact Nat.le_refl _)
  rw [List.length_map] at g2 g4
  obtain ⟨n1, n2⟩ := ints_good [(n : Int)] (by
    intro x hx
    rw [List.mem_singleton.mp hx]; omega)
  simp only [List.map_cons, List.map_nil, goodAll, szAll, Bool.and_true, List.length_cons, List.length_nil, szD] at n1 n2
  apply okD_of
  have hz : szD (webD n ts) ≤ 1000000 := by simp only [webD, szD, szAll]; omega
  have hg : goodD (webD n ts) = true := by simp only [webD, goodD, goodAll, g1, Bool.and_true]; simpa [goodD] using n1
  have hd : PySem.PyData.depth (webD n ts) ≤ 30 := by
    simp only [webD, PySem.PyData.depth, PySem.PyData.depthAll]
    omega
  unfold okQ
  rw [hg, decide_eq_true hd, decide_eq_true hz]; rfl
theorem ev_repr {cf : CF} {a : X} {ρ : Rf.Env} {S S1 : Store} {v : Val} {D : PySem.PyData} (h : ev cf a ρ S = some (v, S1)) (hd : Rf.dataOf S1 v = some D) (hok : okD D = true) : ev cf (.bi .repr (.cons a .nil)) ρ S = some (.str D.shown, S1) := by
  unfold okD at hok
  rw [Bool.and_eq_true] at hok
  exact ev_bi (evs_cons h evs_nil) (reprV_data hd hok.1)
theorem ne_shown {S : Store} {D : PySem.PyData} (hok : okD D = true) : cmpV .ne (.str D.shown) (.str D.shown) S = some false := by
  unfold okD at hok
  rw [Bool.and_eq_true] at hok
  exact (cmp_str hok.2).1
theorem list_tup {xs : List Val} (h : xs.length ≤ 100000) : biV .list [.tup xs] S = some (.ref S.length, S ++ [.lst false xs]) := by
  show newL xs S = _
  rw [newL_ok (by omega)]
theorem ev_lrg {cf : CF} {as : Xs} {ρ : Rf.Env} {S S1 : Store} {vs : List Val} {lo c : Int} {n : Nat} (h : evs cf as ρ S = some (vs, S1)) (hr : rngV vs = some (.rng lo c n)) : ev cf (.lrg as) ρ S = newL ((List.range n).map fun i : Nat => .int (lo + (i : Int))) S1 := by
  show bnd (evs cf as ρ S) _ = _
  rw [h, bnd_some, hr]
theorem list_rng {cf : CF} {n : Nat} {i : Nat} {ρ : Rf.Env} (h : ρ[i]? = some (some (.int (n : Int)))) (hn : n < 100000) : ev cf (.lrg (.cons (.slot i) .nil)) ρ S = some (.ref S.length, S ++ [.lst false (nv (List.range n))]) := by
  have e : evs cf (.cons (.slot i) .nil) ρ S = some ([.int (n : Int)], S) := evs_cons (by show (match ρ[i]? with | some (some v) => some (v, S) | _ => none) = _; rw [h]) evs_nil
  have hr : rngV [.int (n : Int)] = some (.rng 0 1 n) := by
    show (if rngOk (n : Int) = true then some (Itv.rng 0 1 (n : Int).toNat) else none) = _
    rw [if_pos (rng_small (k := n) (by omega)), Int.toNat_natCast]
  rw [ev_lrg e hr]
  have e2 : (List.range n).map (fun i : Nat => Val.int ((0 : Int) + (i : Int))) = nv (List.range n) := by
    unfold nv
    refine List.map_congr_left fun i _ => ?_
    rw [Int.zero_add]
  rw [e2, newL_ok (by rw [nv_len, List.length_range]; omega)]
theorem ne_nn {m n : Nat} {k k' : Bool} {l l' : List Nat} (h : S[m]? = some (.lst k (nv l))) (h' : S[n]? = some (.lst k' (nv l'))) : cmpV .ne (.ref m) (.ref n) S = some (!decide (l = l')) := by
  rw [nv_zi] at h h'
  rw [ne_il h h']
  congr 2
  rw [decide_eq_decide]
  exact ⟨zi_inj, fun e => by rw [e]⟩
theorem ne_nt {l l' : List Nat} : cmpV .ne (.tup (nv l)) (.tup (nv l')) S = some (!decide (l = l')) := by
  rw [nv_zi, nv_zi]
  refine ne_tv.trans ?_
  congr 2
  rw [decide_eq_decide]
  exact ⟨zi_inj, fun e => by rw [e]⟩
theorem eq_nt {l l' : List Nat} : cmpV .eq (.tup (nv l)) (.tup (nv l')) S = some (decide (l = l')) := by
  rw [nv_zi, nv_zi]
  refine (show cmpV .eq (tv (zi l)) (tv (zi l')) S = some (decide (zi l = zi l')) from eqV_tup).trans ?_
  congr 1
  rw [decide_eq_decide]
  exact ⟨zi_inj, fun e => by rw [e]⟩
theorem in_nt {x : Nat} {l : List Nat} : inV (.int (x : Int)) (.tup (nv l)) S = some (decide (x ∈ l)) := by
  rw [nv_zi]
  refine in_tup.trans ?_
  congr 1
  rw [decide_eq_decide]
  exact zi_mem
theorem ev_isnilN {cf : CF} {a : X} {ρ : Rf.Env} {S1 : Store} {m : Nat} {k : Bool} {l : List Nat} (h : ev cf a ρ S = some (.ref m, S1)) (g : S1[m]? = some (.lst k (nv l))) : ev cf (.cmp .ne a (.lst .nil)) ρ S = some (.bl (!decide (l = [])), S1 ++ [.lst false (([] : List Int).map .int)]) := by
  rw [nv_zi] at g
  have e := ev_nonnil h g
  have q : decide (zi l = []) = decide (l = []) := by
    rw [decide_eq_decide]
    exact ⟨fun e => zi_inj (m := []) e, fun e => by rw [e]; rfl⟩
  rw [q] at e
  exact e
end CG

/-! CG13: plainly: median lots, the least by steps down; ways. -/
namespace CG
open Rf Cm
/-! ### letters 0, 1; middles -/
def Bin (W : List (List Int)) : Prop := ∀ w ∈ W, ∀ x ∈ w, x = 0 ∨ x = 1
def Med (W : List (List Int)) : Prop := ∀ a ∈ W, ∀ b ∈ W, ∀ c ∈ W, med a b c ∈ W
theorem Bin.perm {W W' : List (List Int)} (h : Bin W) (p : W'.Perm W) : Bin W' := fun w hw => h w (p.mem_iff.mp hw)
theorem Med.perm {W W' : List (List Int)} (h : Med W) (p : W'.Perm W) : Med W' := fun a ha b hb c hc => p.mem_iff.mpr (h a (p.mem_iff.mp ha) b (p.mem_iff.mp hb) c (p.mem_iff.mp hc))
theorem bin_at {w : List Int} (h : ∀ x ∈ w, x = 0 ∨ x = 1) (i : Nat) : lt0 w i = 0 ∨ lt0 w i = 1 := by
  unfold lt0
  cases g : w[i]? with
  | none => exact .inl rfl
  | some x => exact h x (List.mem_of_getElem? g)
theorem med_len {n : Nat} {a b c : List Int} (ha : a.length = n) (hb : b.length = n) (hc : c.length = n) : (med a b c).length = n := by
  unfold med
  rw [List.length_map, List.length_zip, List.length_zip, ha, hb, hc]; omega
theorem med_snoc {n : Nat} {a b c : List Int} {x y z : Int} (ha : a.length = n) (hb : b.length = n) (hc : c.length = n) : med (a ++ [x]) (b ++ [y]) (c ++ [z]) = med a b c ++ [maj ((x, y), z)] := by
  unfold med
  rw [List.zip_append (by omega), List.zip_append (by rw [List.length_zip]; omega), List.map_append]; rfl
theorem bin_expd {W P : List (List Int)} (h : Bin W) (hs : ∀ w ∈ P, w ∈ W) : Bin (expd W P) := by
  intro w hw x hx
  rcases mem_expd.mp hw with ⟨u, hu, rfl⟩ | ⟨u, hu, rfl⟩
  · rcases List.mem_append.mp hx with q | q
    · exact h u hu x q
    · exact .inl (List.mem_singleton.mp q)
  · rcases List.mem_append.mp hx with q | q
    · exact h u (hs u hu) x q
    · exact .inr (List.mem_singleton.mp q)
theorem lt0_med {n : Nat} {a b c : List Int} (ha : a.length = n) (hb : b.length = n) (hc : c.length = n) (i : Nat) : lt0 (med a b c) i = if lt0 a i + lt0 b i + lt0 c i > 1 then 1 else 0 := at_med ha hb hc i
/-- a hull has the middles of two of its words and any -/
theorem med_hull {dd : Nat} {W : List (List Int)} (hI : Iso dd W) (hB : Bin W) (hM : Med W) {s0 : List Int} {al : List Nat} (hal : ∀ i ∈ al, i < dd) (hs0 : s0.length = dd) {a b c : List Int} (ha : a ∈ hullL W s0 al) (hb : b ∈ hullL W s0 al) (hc : c ∈ W) :
    med a b c ∈ hullL W s0 al ∧ med a c b ∈ hullL W s0 al ∧ med c a b ∈ hullL W s0 al := by
  obtain ⟨a1, a2⟩ := mem_hull.mp ha
  obtain ⟨b1, b2⟩ := mem_hull.mp hb
  have la := hI.len a a1
  have lb := hI.len b b1
  have lc := hI.len c hc
  have key : ∀ (u : List Int), u.length = dd → (∀ i ∈ al, lt0 u i = lt0 a i) → ∀ i ∈ al, u[i]? = s0[i]? := by
    intro u hu h i hi
    have hid := hal i hi
    rw [← a2 i hi]
    exact (lt0_eq (by omega) (by omega)).mp (h i hi)
  have eq : ∀ i ∈ al, lt0 b i = lt0 a i := fun i hi => (lt0_eq (by have := hal i hi; omega) (by have := hal i hi; omega)).mpr ((b2 i hi).trans (a2 i hi).symm)
  refine ⟨mem_hull.mpr ⟨hM a a1 b b1 c hc, key _ (med_len la lb lc) fun i hi => ?_⟩, mem_hull.mpr ⟨hM a a1 c hc b b1, key _ (med_len la lc lb) fun i hi => ?_⟩, mem_hull.mpr ⟨hM c hc a a1 b b1, key _ (med_len lc la lb) fun i hi => ?_⟩⟩
  · rw [lt0_med la lb lc, eq i hi]
    rcases bin_at (hB a a1) i with h1 | h1 <;> rcases bin_at (hB c hc) i with h2 | h2 <;> rw [h1, h2] <;> decide
  · rw [lt0_med la lc lb, eq i hi]
    rcases bin_at (hB a a1) i with h1 | h1 <;> rcases bin_at (hB c hc) i with h2 | h2 <;> rw [h1, h2] <;> decide
  · rw [lt0_med lc la lb, eq i hi]
    rcases bin_at (hB a a1) i with h1 | h1 <;> rcases bin_at (hB c hc) i with h2 | h2 <;> rw [h1, h2] <;> decide
theorem med_expd {dd : Nat} {W : List (List Int)} (hI : Iso dd W) (hB : Bin W) (hM : Med W) {s0 : List Int} {al : List Nat} (hal : ∀ i ∈ al, i < dd) (hs0 : s0.length = dd) : Med (expd W (hullL W s0 al)) := by
  have sub : ∀ w ∈ hullL W s0 al, w ∈ W := fun w hw => (mem_hull.mp hw).1
  have part : ∀ {w : List Int}, w ∈ expd W (hullL W s0 al) → ∃ u x, w = u ++ [x] ∧ u ∈ W ∧ (x = 0 ∨ x = 1 ∧ u ∈ hullL W s0 al) := by
    intro w hw
    rcases mem_expd.mp hw with ⟨u, hu, rfl⟩ | ⟨u, hu, rfl⟩
    · exact ⟨u, 0, rfl, hu, .inl rfl⟩
    · exact ⟨u, 1, rfl, sub u hu, .inr ⟨rfl, hu⟩⟩
  intro a ha b hb c hc
  obtain ⟨a', x, rfl, ha', hx⟩ := part ha
  obtain ⟨b', y, rfl, hb', hy⟩ := part hb
  obtain ⟨c', z, rfl, hc', hz⟩ := part hc
  rw [med_snoc (hI.len a' ha') (hI.len b' hb') (hI.len c' hc')]
  have m0 := hM a' ha' b' hb' c' hc'
  rcases hx with rfl | ⟨rfl, pa⟩ <;> rcases hy with rfl | ⟨rfl, pb⟩ <;> rcases hz with rfl | ⟨rfl, pc⟩
  · exact mem_expd.mpr (.inl ⟨_, m0, rfl⟩)
  · exact mem_expd.mpr (.inl ⟨_, m0, rfl⟩)
  · exact mem_expd.mpr (.inl ⟨_, m0, rfl⟩)
  · exact mem_expd.mpr (.inr ⟨_, (med_hull hI hB hM hal hs0 pb pc ha').2.2, rfl⟩)
  · exact mem_expd.mpr (.inl ⟨_, m0, rfl⟩)
  · exact mem_expd.mpr (.inr ⟨_, (med_hull hI hB hM hal hs0 pa pc hb').2.1, rfl⟩)
  · exact mem_expd.mpr (.inr ⟨_, (med_hull hI hB hM hal hs0 pa pb hc').1, rfl⟩)
  · exact mem_expd.mpr (.inr ⟨_, (med_hull hI hB hM hal hs0 pa pb hc').1, rfl⟩)
/-! ### sums letter by letter -/
def sumR (n : Nat) (g : Nat → Nat) : Nat := ((List.range n).map g).sum
theorem sumR_succ (n : Nat) (g : Nat → Nat) : sumR (n + 1) g = sumR n g + g n := by
  unfold sumR
  rw [List.range_succ, List.map_append, List.sum_append]
  simp
theorem sumR_zero (n : Nat) : sumR n (fun _ => 0) = 0 := by
  induction n with
  | zero => rfl
  | succ n ih => rw [sumR_succ, ih]
theorem sumR_congr {n : Nat} {g h : Nat → Nat} (e : ∀ i, i < n → g i = h i) : sumR n g = sumR n h := by
  unfold sumR
  congr 1
  exact List.map_congr_left fun i hi => e i (List.mem_range.mp hi)
theorem sumR_add (n : Nat) (g h : Nat → Nat) : sumR n (fun i => g i + h i) = sumR n g + sumR n h := sum_map_add _ _ _
theorem sumR_le {n : Nat} {g h : Nat → Nat} (e : ∀ i, i < n → g i ≤ h i) : sumR n g ≤ sumR n h := by
  induction n with
  | zero => exact Nat.le_refl _
  | succ n ih =>
    rw [sumR_succ, sumR_succ]
    have := ih fun i hi => e i (by omega)
    have := e n (by omega)
    omega
theorem sumR_mul (n k : Nat) (g : Nat → Nat) : sumR n (fun i => k * g i) = k * sumR n g := by
  induction n with
  | zero => rfl
  | succ n ih => rw [sumR_succ, sumR_succ, ih, Nat.mul_add]
theorem sumR_swap (n m : Nat) (g : Nat → Nat → Nat) : sumR n (fun i => sumR m fun j => g i j) = sumR m fun j => sumR n fun i => g i j := by
  induction n with
  | zero =>
    have : sumR m (fun _ => 0) = 0 := by
      induction m with
      | zero => rfl
      | succ m ih => rw [sumR_succ, ih]
    exact this.symm
  | succ n ih =>
    rw [sumR_succ, ih, ← sumR_add]
    exact sumR_congr fun j _ => (sumR_succ n fun i => g i j).symm
theorem sumR_lt {n : Nat} {g h : Nat → Nat} (e : sumR n g < sumR n h) : ∃ i, i < n ∧ g i < h i := by
  apply Classical.byContradiction
  intro q
  have : sumR n h ≤ sumR n g := sumR_le fun i hi => Nat.le_of_not_lt fun hl => q ⟨i, hi, hl⟩
  omega
def df (x y : Int) : Nat := if x = y then 0 else 1
theorem ham_sum : ∀ {n : Nat} {u w : List Int}, u.length = n → w.length = n → ham u w = sumR n fun j => df (lt0 u j) (lt0 w j)
  | 0, [], [], _, _ => rfl
  | n + 1, u, w, hu, hw => by
    have hu' : u = u.dropLast ++ [u.getLast (by intro q; rw [q] at hu; cases hu)] := (List.dropLast_concat_getLast _).symm
    have hw' : w = w.dropLast ++ [w.getLast (by intro q; rw [q] at hw; cases hw)] := (List.dropLast_concat_getLast _).symm
    have lu : u.dropLast.length = n := by rw [List.length_dropLast]; omega
    have lw : w.dropLast.length = n := by rw [List.length_dropLast]; omega
    generalize u.getLast _ = x at hu'
    generalize w.getLast _ = y at hw'
    generalize u.dropLast = u0 at hu' lu
    generalize w.dropLast = w0 at hw' lw
    subst hu' hw'
    have at_lo : ∀ {v : List Int} {z : Int} {j : Nat}, v.length = n → j < n → lt0 (v ++ [z]) j = lt0 v j := fun {v z j} hv hj => by unfold lt0; rw [List.getElem?_append_left (by omega)]
    have at_hi : ∀ {v : List Int} {z : Int}, v.length = n → lt0 (v ++ [z]) n = z := fun {v z} hv => by unfold lt0; rw [List.getElem?_append_right (by omega), hv]; simp
    rw [ham_snoc (by omega), ham_sum lu lw, sumR_succ, at_hi lu, at_hi lw]
    congr 1
    exact sumR_congr fun j hj => by rw [at_lo lu hj, at_lo lw hj]
/-- the votes whose letter at j is none of c -/
def Aw (W : List (List Int)) (v : List Nat) (j : Nat) (c : Int) : Nat := sumR W.length fun z => at0n v z * df c (lt0 (W[z]?.getD []) j)
theorem dot_letters {dd : Nat} {W : List (List Int)} (h : Iso dd W) {v : List Nat} (hv : v.length = W.length) {x : Nat} (hx : x < W.length) : dot v (rowL W x) = sumR dd fun j => Aw W v j (lt0 (W[x]?.getD []) j) := by
  rw [dot_row hv]
  have at_ : ∀ y, y < W.length → (W[y]?.getD []).length = dd := fun y hy => by
    rw [List.getElem?_eq_getElem hy]
    exact h.len _ (List.getElem_mem hy)
  have e : ((List.range W.length).map fun y => at0n v y * hamAt W x y).sum = sumR W.length fun y => sumR dd fun j => at0n v y * df (lt0 (W[x]?.getD []) j) (lt0 (W[y]?.getD []) j) := by
    refine sumR_congr fun y hy => ?_
    show at0n v y * ham _ _ = _
    rw [ham_sum (at_ x hx) (at_ y hy), sumR_mul]
  rw [e, sumR_swap]
  rfl
theorem least_ex {P : Nat → Prop} : ∀ k, P k → ∃ m, P m ∧ ∀ n, P n → m ≤ n := by
  intro k
  induction k using Nat.strongRecOn with
  | _ k ih =>
    intro hk
    by_cases h : ∃ m, m < k ∧ P m
    · obtain ⟨m, h1, h2⟩ := h
      exact ih m h1 h2
    · exact ⟨k, hk, fun n hn => Nat.le_of_not_lt fun q => h ⟨n, q, hn⟩⟩
/-- steps down end at the least -/
theorem local_least {dd : Nat} {W : List (List Int)} (h : Iso dd W) (hB : Bin W) (hM : Med W) {v : List Nat} (hv : v.length = W.length) {x : Nat} (hx : x < W.length) (hloc : ∀ y, y < W.length → adjW W x y = true → dot v (rowL W x) ≤ dot v (rowL W y)) : ∀ y, y < W.length → dot v (rowL W x) ≤ dot v (rowL W y) := by
  intro y hy
  apply Nat.le_of_not_lt
  intro hlt
  rw [dot_letters h hv hx, dot_letters h hv hy] at hlt
  obtain ⟨i, hi, hAi⟩ := sumR_lt hlt
  have at_ : ∀ z, z < W.length → ∃ w, W[z]? = some w ∧ w ∈ W ∧ w.length = dd := fun z hz => ⟨_, List.getElem?_eq_getElem hz, List.getElem_mem hz, h.len _ (List.getElem_mem hz)⟩
  obtain ⟨wx, gx, mx, lx⟩ := at_ x hx
  obtain ⟨wy, gy, my, ly⟩ := at_ y hy
  rw [gx, gy] at hAi
  change Aw W v i (lt0 wy i) < Aw W v i (lt0 wx i) at hAi
  have hne : lt0 wy i ≠ lt0 wx i := fun q => by rw [q] at hAi; omega
  -- the nearest word with another letter at i
  obtain ⟨m0, ⟨z, mz, hzi, hzk⟩, hm0⟩ := least_ex (P := fun k => ∃ z ∈ W, lt0 z i ≠ lt0 wx i ∧ ham wx z = k) _ ⟨wy, my, hne, rfl⟩
  have hmin : ∀ w ∈ W, lt0 w i ≠ lt0 wx i → ham wx z ≤ ham wx w := fun w hw hwi => by
    rw [hzk]
    exact hm0 _ ⟨w, hw, hwi, rfl⟩
  have lz := h.len z mz
  have hxz : wx ≠ z := fun q => hzi (by rw [q])
  obtain ⟨u, mu, e1, e2⟩ := h.step wx mx z mz hxz
  have lu := h.len u mu
  obtain ⟨b, hb, gb⟩ := List.getElem_of_mem mu
  have gb' : W[b]? = some u := by rw [List.getElem?_eq_getElem hb, gb]
  -- the letter where u leaves wx
  have hs1 := ham_sum lx lu
  rw [e1] at hs1
  obtain ⟨j, hj, hju⟩ : ∃ j, j < dd ∧ lt0 wx j ≠ lt0 u j := by
    apply Classical.byContradiction
    intro q
    have : sumR dd (fun j => df (lt0 wx j) (lt0 u j)) ≤ sumR dd fun _ => 0 := sumR_le fun j hj => by
      unfold df
      by_cases e : lt0 wx j = lt0 u j
      · rw [if_pos e]; exact Nat.le_refl _
      · exact absurd ⟨j, hj, e⟩ q
    have z0 := sumR_zero dd
    omega
  have honly : ∀ k, k < dd → k ≠ j → lt0 wx k = lt0 u k := by
    intro k hk hkj
    apply Classical.byContradiction
    intro q
    have two : ∀ n, sumR n (fun m => (if m = j then 1 else 0) + (if m = k then 1 else 0)) = (if j < n then 1 else 0) + (if k < n then 1 else 0) := by
      intro n
      induction n with
      | zero => rfl
      | succ n ih =>
        rw [sumR_succ, ih]
        by_cases a1 : n = j
        · have a2 : n ≠ k := by omega
          rw [if_pos a1, if_neg a2]
          have c1 : ¬ j < n := by omega
          have c2 : j < n + 1 := by omega
          rw [if_neg c1, if_pos c2]
          by_cases a3 : k < n
          · rw [if_pos a3, if_pos (by omega)]
          · rw [if_neg a3, if_neg (by omega)]
        · rw [if_neg a1]
          by_cases a2 : n = k
          · have c1 : ¬ k < n := by omega
            have c2 : k < n + 1 := by omega
            rw [if_pos a2, if_neg c1, if_pos c2]
            by_cases a3 : j < n
            · rw [if_pos a3, if_pos (by omega)]
            · rw [if_neg a3, if_neg (by omega)]
          · rw [if_neg a2]
            have c1 : (j < n + 1) ↔ (j < n) := by omega
            have c2 : (k < n + 1) ↔ (k < n) := by omega
            simp only [c1, c2]
            omega
    have := two dd
    rw [if_pos hj, if_pos hk] at this
    have le : sumR dd (fun m => (if m = j then 1 else 0) + (if m = k then 1 else 0)) ≤ sumR dd (fun j => df (lt0 wx j) (lt0 u j)) := sumR_le fun m hm => by
      unfold df
      by_cases a1 : m = j
      · have a2 : m ≠ k := by omega
        rw [if_pos a1, if_neg a2, a1, if_neg hju]
        omega
      · by_cases a2 : m = k
        · rw [if_neg a1, if_pos a2, a2, if_neg q]
          omega
        · rw [if_neg a1, if_neg a2]; omega
    omega
  have zj : lt0 z j ≠ lt0 wx j := by
    intro q
    have := ham_between (lx.trans lu.symm) (lu.trans lz.symm) (by omega) j ((lt0_eq (by omega) (by omega)).mp q.symm)
    exact hju ((lt0_eq (by omega) (by omega)).mpr this.symm)
  -- whoever has another letter at i has another one at j
  have hsub : ∀ w ∈ W, lt0 w i ≠ lt0 wx i → lt0 w j ≠ lt0 wx j := by
    intro w hw hwi hwj
    have lw := h.len w hw
    by_cases hij : i = j
    · subst hij; exact hwi hwj
    have mm := hM wx mx z mz w hw
    have lm := med_len lx lz lw
    have hmi : lt0 (med wx z w) i ≠ lt0 wx i := by
      rw [lt0_med lx lz lw]
      rcases bin_at (hB wx mx) i with p1 | p1 <;> rcases bin_at (hB z mz) i with p2 | p2 <;> rcases bin_at (hB w hw) i with p3 | p3 <;> rw [p1] at hwi hzi ⊢ <;> rw [p2] at hzi ⊢ <;> rw [p3] at hwi ⊢ <;> first | exact absurd rfl hwi | exact absurd rfl hzi | decide
    have hmj : lt0 (med wx z w) j = lt0 wx j := by
      rw [lt0_med lx lz lw, hwj]
      rcases bin_at (hB wx mx) j with p1 | p1 <;> rcases bin_at (hB z mz) j with p2 | p2 <;> rw [p1, p2] <;> decide
    have hle := hmin _ mm hmi
    rw [ham_sum lx lz, ham_sum lx lm] at hle
    have lt : sumR dd (fun k => df (lt0 wx k) (lt0 (med wx z w) k)) + 1 ≤ sumR dd (fun k => df (lt0 wx k) (lt0 z k)) := by
      have one : sumR dd (fun k => if k = j then 1 else 0) = 1 := by
        have := sum_ind dd j fun _ => 1
        rw [if_pos hj] at this
        have e : sumR dd (fun k => if k = j then 1 else 0) = ((List.range dd).map fun y => (if y = j then 1 else 0) * 1).sum := sumR_congr fun k _ => by rw [Nat.mul_one]
        rw [e, this]
      rw [← one, ← sumR_add]
      refine sumR_le fun k hk => ?_
      by_cases hkj : k = j
      · rw [if_pos hkj, hkj, hmj]
        unfold df
        rw [if_pos rfl, if_neg fun q => zj q.symm]
        exact Nat.le_refl _
      · rw [if_neg hkj]
        rw [lt0_med lx lz lw]
        rcases bin_at (hB wx mx) k with p1 | p1 <;> rcases bin_at (hB z mz) k with p2 | p2 <;> rcases bin_at (hB w hw) k with p3 | p3 <;> rw [p1, p2, p3] <;> decide
    omega
  have flip : ∀ {w : List Int}, w ∈ W → ∀ {k : Nat} {w' : List Int}, w' ∈ W → lt0 w' k ≠ lt0 wx k → (df (lt0 w' k) (lt0 w k) = if lt0 w k ≠ lt0 wx k then 0 else 1) := by
    intro w hw k w' hw' hne
    unfold df
    rcases bin_at (hB wx mx) k with p1 | p1 <;> rcases bin_at (hB w' hw') k with p2 | p2 <;> rcases bin_at (hB w hw) k with p3 | p3 <;> rw [p1] at hne ⊢ <;> rw [p2] at hne ⊢ <;> rw [p3] <;> first | exact absurd rfl hne | decide
  have h1 : Aw W v i (lt0 wx i) ≤ Aw W v j (lt0 wx j) := sumR_le fun c hc => by
    obtain ⟨w, gw, hw, lw⟩ := at_ c hc
    rw [gw]
    refine Nat.mul_le_mul_left _ ?_
    show df (lt0 wx i) (lt0 w i) ≤ df (lt0 wx j) (lt0 w j)
    unfold df
    by_cases e : lt0 wx i = lt0 w i
    · rw [if_pos e]; exact Nat.zero_le _
    · have := hsub w hw fun q => e q.symm
      rw [if_neg e, if_neg fun q => this q.symm]
      exact Nat.le_refl _
  have h2 : Aw W v j (lt0 u j) ≤ Aw W v i (lt0 wy i) := sumR_le fun c hc => by
    obtain ⟨w, gw, hw, lw⟩ := at_ c hc
    rw [gw]
    refine Nat.mul_le_mul_left _ ?_
    show df (lt0 u j) (lt0 w j) ≤ df (lt0 wy i) (lt0 w i)
    rw [flip hw mu (fun q => hju q.symm), flip hw my hne]
    by_cases e : lt0 w i = lt0 wx i
    · have r : (if lt0 w i ≠ lt0 wx i then 0 else 1) = 1 := if_neg fun q => q e
      rw [r]
      split <;> omega
    · have r : (if lt0 w j ≠ lt0 wx j then 0 else 1) = 0 := if_pos (hsub w hw e)
      rw [r]
      exact Nat.zero_le _
  have h3 := hloc b hb (by rw [adjW_at gx gb', decide_eq_true_eq]; exact e1)
  rw [dot_letters h hv hx, dot_letters h hv hb, gx, gb'] at h3
  have h4 : sumR dd (fun k => Aw W v k (lt0 u k)) < sumR dd (fun k => Aw W v k (lt0 wx k)) := by
    have hsplit : ∀ n, sumR n (fun k => Aw W v k (lt0 u k)) + (if j < n then Aw W v j (lt0 wx j) else 0) = sumR n (fun k => Aw W v k (if k < dd then lt0 wx k else lt0 u k)) + (if j < n then Aw W v j (lt0 u j) else 0) := by
      intro n
      induction n with
      | zero => rfl
      | succ n ih =>
        rw [sumR_succ, sumR_succ]
        by_cases a : n = j
        · subst a
          rw [if_neg (Nat.lt_irrefl _), if_neg (Nat.lt_irrefl _)] at ih
          rw [if_pos (Nat.lt_succ_self _), if_pos (Nat.lt_succ_self _), if_pos hj]
          omega
        · have c1 : (j < n + 1) ↔ (j < n) := by omega
          simp only [c1]
          have : Aw W v n (lt0 u n) = Aw W v n (if n < dd then lt0 wx n else lt0 u n) := by
            by_cases q : n < dd
            · rw [if_pos q, honly n q a]
            · rw [if_neg q]
          omega
    have hs := hsplit dd
    rw [if_pos hj, if_pos hj] at hs
    have e : sumR dd (fun k => Aw W v k (if k < dd then lt0 wx k else lt0 u k)) = sumR dd fun k => Aw W v k (lt0 wx k) := sumR_congr fun k hk => by rw [if_pos hk]
    rw [e] at hs
    omega
  change sumR dd (fun k => Aw W v k (lt0 wx k)) ≤ sumR dd (fun k => Aw W v k (lt0 u k)) at h3
  omega
end CG

/-! CG14: ways of words, lots drawn of either kind. -/
namespace CG
open Rf Cm
/-! ### ways, plainly -/
/-- words step by step nearer to o; the first is t away -/
structure Way (W : List (List Int)) (o : List Int) (t : Nat) (R : List (List Int)) : Prop where
  sub : ∀ w ∈ R, w ∈ W
  far : ∀ (k : Nat) (u : List Int), R[k]? = some u → ham u o + k = t
  one : ∀ (k : Nat) (u w : List Int), R[k]? = some u → R[k + 1]? = some w → ham u w = 1
theorem Way.span {dd t : Nat} {W R : List (List Int)} {o : List Int} (h : Iso dd W) (ho : o ∈ W) (p : Way W o t R) : ∀ (j k : Nat) (u w : List Int), R[k]? = some u → R[k + j]? = some w → ham u w = j := by
  intro j
  have up : ∀ (j k : Nat) (u w : List Int), R[k]? = some u → R[k + j]? = some w → ham u w ≤ j := by
    intro j
    induction j with
    | zero =>
      intro k u w h1 h2
      rw [Nat.add_zero, h1] at h2
      cases h2
      rw [ham_self]; exact Nat.le_refl _
    | succ j ih =>
      intro k u w h1 h2
      have hl : k + j < R.length := by
        have := (List.getElem?_eq_some_iff.mp h2).1
        omega
      have g : R[k + j]? = some R[k + j] := List.getElem?_eq_getElem hl
      have h3 := ih k u _ h1 g
      have h4 := p.one (k + j) _ w g h2
      have l1 := h.len u (p.sub u (List.mem_of_getElem? h1))
      have l2 := h.len _ (p.sub _ (List.mem_of_getElem? g))
      have l3 := h.len w (p.sub w (List.mem_of_getElem? h2))
      have := ham_tri (u := u) (w := R[k + j]) (v := w) (by omega) (by omega)
      omega
  intro k u w h1 h2
  have h3 := up j k u w h1 h2
  have h4 := p.far k u h1
  have h5 := p.far (k + j) w h2
  have l1 := h.len u (p.sub u (List.mem_of_getElem? h1))
  have l3 := h.len w (p.sub w (List.mem_of_getElem? h2))
  have l4 := h.len o ho
  have := ham_tri (u := u) (w := w) (v := o) (by omega) (by omega)
  omega
theorem Way.toSub {dd t : Nat} {W R : List (List Int)} {o : List Int} (h : Iso dd W) (ho : o ∈ W) (p : Way W o t R) : Sub W R := by
  have sp := p.span h ho
  refine ⟨p.sub, ?_, fun u hu v hv hne => ?_⟩
  · refine List.nodup_iff_pairwise_ne.mpr (List.pairwise_iff_getElem.mpr fun i j hi hj hij q => ?_)
    have gi : R[i]? = some R[i] := List.getElem?_eq_getElem hi
    have gj : R[j]? = some R[j] := List.getElem?_eq_getElem hj
    have := sp (j - i) i _ _ gi (by rw [show i + (j - i) = j by omega]; exact gj)
    rw [q, ham_self] at this
    omega
  · obtain ⟨i, hi, gi⟩ := List.getElem_of_mem hu
    obtain ⟨j, hj, gj⟩ := List.getElem_of_mem hv
    have gi' : R[i]? = some u := by rw [List.getElem?_eq_getElem hi, gi]
    have gj' : R[j]? = some v := by rw [List.getElem?_eq_getElem hj, gj]
    have hij : i ≠ j := by
      rintro rfl
      rw [gi'] at gj'
      exact hne (Option.some.inj gj')
    by_cases hlt : i < j
    · have g : R[i + 1]? = some R[i + 1] := List.getElem?_eq_getElem (by omega)
      have h1 := p.one i u _ gi' g
      have h2 := sp (j - (i + 1)) (i + 1) _ v g (by rw [show i + 1 + (j - (i + 1)) = j by omega]; exact gj')
      have h3 := sp (j - i) i u v gi' (by rw [show i + (j - i) = j by omega]; exact gj')
      exact ⟨_, List.mem_of_getElem? g, h1, by omega⟩
    · have g : R[i - 1]? = some R[i - 1] := List.getElem?_eq_getElem (by omega)
      have h1 := p.one (i - 1) _ u g (by rw [show i - 1 + 1 = i by omega]; exact gi')
      have h2 := sp (i - 1 - j) j v _ gj' (by rw [show j + (i - 1 - j) = i - 1 by omega]; exact g)
      have h3 := sp (i - j) j v u gj' (by rw [show j + (i - j) = i by omega]; exact gi')
      refine ⟨_, List.mem_of_getElem? g, by rw [ham_sym]; exact h1, ?_⟩
      rw [ham_sym] at h2
      rw [ham_sym u v, h2, h3]
      omega
theorem Way.snoc {dd t : Nat} {W R : List (List Int)} {o u w : List Int} (h : Iso dd W) (ho : o ∈ W) (p : Way W o t R) (hu : R.getLast? = some u) (hw : w ∈ W) (h1 : ham w u = 1) (h2 : ham w o < ham u o) : Way W o t (R ++ [w]) ∧ ham w o + 1 = ham u o := by
  rw [List.getLast?_eq_getElem?] at hu
  have hl : R.length - 1 < R.length := (List.getElem?_eq_some_iff.mp hu).1
  have mu := p.sub u (List.mem_of_getElem? hu)
  have lu := h.len u mu
  have lw := h.len w hw
  have lo := h.len o ho
  have t1 := ham_tri (u := u) (w := w) (v := o) (by omega) (by omega)
  rw [ham_sym u w] at t1
  have he : ham w o + 1 = ham u o := by omega
  have hf := p.far _ u hu
  refine ⟨⟨fun x hx => ?_, fun k x hx => ?_, fun k x y hx hy => ?_⟩, he⟩
  · rcases List.mem_append.mp hx with q | q
    · exact p.sub x q
    · rw [List.mem_singleton.mp q]; exact hw
  · by_cases hk : k < R.length
    · rw [List.getElem?_append_left hk] at hx
      exact p.far k x hx
    · rw [List.getElem?_append_right (by omega)] at hx
      have hk0 : k - R.length = 0 := by
        have := (List.getElem?_eq_some_iff.mp hx).1
        simp at this; omega
      rw [hk0] at hx
      cases hx
      omega
  · by_cases hk : k + 1 < R.length
    · rw [List.getElem?_append_left (by omega)] at hx
      rw [List.getElem?_append_left hk] at hy
      exact p.one k x y hx hy
    · have hk1 : k + 1 = R.length := by
        have := (List.getElem?_eq_some_iff.mp hy).1
        rw [List.length_append, List.length_singleton] at this
        omega
      rw [List.getElem?_append_left (by omega), show k = R.length - 1 by omega, hu] at hx
      rw [hk1, List.getElem?_append_right (Nat.le_refl _), Nat.sub_self] at hy
      cases hx
      cases hy
      rw [ham_sym]; exact h1
theorem way_one {W : List (List Int)} {o u : List Int} (hu : u ∈ W) : Way W o (ham u o) [u] := by
  refine ⟨fun w hw => by rw [List.mem_singleton.mp hw]; exact hu, fun k w hw => ?_, fun k a b ha hb => ?_⟩
  · have := (List.getElem?_eq_some_iff.mp hw).1
    have hk : k = 0 := by simp at this; omega
    subst hk
    cases hw
    omega
  · have := (List.getElem?_eq_some_iff.mp hb).1
    simp at this
/-! ### the walk -/
variable {tbl : List FD} {d : Nat} {S : Store}
def YB (a : Nat) : B := loopB (bnth (DWayW a).body 1)
theorem last_ix {r : Nat} {k : Bool} {R : List (List Int)} {u : List Int} (h : S[r]? = some (.lst k (lv R))) (hu : R.getLast? = some u) : ixV (.ref r) (.int (-1)) S = some (tv u) := by
  rw [List.getLast?_eq_getElem?] at hu
  have hl : R.length - 1 < R.length := (List.getElem?_eq_some_iff.mp hu).1
  refine ix_lst h ?_
  exact at_neg (i := 0) (by rw [lv_len, lv, List.getElem?_map, show R.length - (0 + 1) = R.length - 1 by omega, hu]; rfl) (by rw [lv_len]; omega)
theorem c_way {f a : Nat} (hTab : tbl[f]? = some (DWayW a)) (ha : tbl[a]? = some DApart) {wr dd : Nat} {k : Bool} {W : List (List Int)} {u o : List Int} (hw : S[wr]? = some (.lst k (lv W))) (h : Iso dd W) (hu : u ∈ W) (ho : o ∈ W) (hl : W.length < 1000) (hd : dd < 150) :
    ∃ r R S', C tbl (d + 2) f [.ref wr, tv u, tv o] S = some (.ref r, S') ∧ Kp S S' ∧ S'[r]? = some (.lst false (lv R)) ∧ Way W o (ham u o) R := by
  have gA : (S ++ [Rf.Obj.lst false (lv [u])])[S.length]? = some (.lst false (lv [u])) := get_last
  obtain ⟨ρ', S1, e1, z4, rfl, k1, R, g1, p1⟩ := while_meas (test := ev (C tbl (d + 1)) (.cmp .ne (.idx (.slot 3) (.neg (.k (.int 1)))) (.slot 2))) (body := exs (C tbl (d + 1)) 200 (YB a)) (fu := 200) (n := ham u o) (ρ := [some (.ref wr), some (tv u), some (tv o), some (.ref S.length), none, none]) (S := S ++ [.lst false (lv [u])])
    (fun n ρ S' => ∃ (R : List (List Int)) (z : List Int) (z4 : Option Val), ρ = [some (.ref wr), some (tv u), some (tv o), some (.ref S.length), z4, none] ∧ Kp S S' ∧ S'[S.length]? = some (.lst false (lv R)) ∧ Way W o (ham u o) R ∧ R.getLast? = some z ∧ n = ham z o)
    (fun ρ S' => ∃ z4, ρ = [some (.ref wr), some (tv u), some (tv o), some (.ref S.length), z4, none] ∧ Kp S S' ∧ ∃ R, S'[S.length]? = some (.lst false (lv R)) ∧ Way W o (ham u o) R)
    ⟨[u], u, none, rfl, .add _ _, gA, way_one hu, rfl, rfl⟩ (by
      have := ham_le u o
      have := h.len u hu
      omega) (by
      rintro n ρ S' ⟨R, z, z4, rfl, kp, g, p, hz, rfl⟩
      have hzW : z ∈ W := by
        rw [List.getLast?_eq_getElem?] at hz
        exact p.sub z (List.mem_of_getElem? hz)
      have hw' := kp _ _ hw
      have t : ev (C tbl (d + 1)) (.cmp .ne (.idx (.slot 3) (.neg (.k (.int 1)))) (.slot 2)) [some (.ref wr), some (tv u), some (tv o), some (.ref S.length), z4, none] S' = some (.bl (!decide (z = o)), S') :=
        ev_cmp (ev_idx rfl rfl (last_ix g hz)) rfl ne_tv
      by_cases hzo : z = o
      · rw [decide_eq_true hzo] at t
        exact .inl ⟨S', t, z4, rfl, kp, R, g, p⟩
      · rw [decide_eq_false hzo] at t
        refine .inr ⟨S', t, ?_⟩
        have hlen : ∀ w ∈ W, w.length < 1000 := fun w hw => by rw [h.len w hw]; omega
        obtain ⟨S2, e2, l2⟩ := lc_map (f := dTurn [5] (asg (C tbl (d + 1)) (.slot 5)) (ev (C tbl (d + 1)) (.cmp .eq (.call a (.cons (.slot 5) (.cons (.idx (.slot 3) (.neg (.k (.int 1)))) .nil))) (.k (.int 1)))) (ev (C tbl (d + 1)) (.slot 5)) [some (.ref wr), some (tv u), some (tv o), some (.ref S.length), z4, none])
          (J := .seq (.l wr)) (ws := W) (t := tv) (S := S') (fun w => if decide (ham w z = 1) = true then some (tv w) else none) (its_l hw') (by omega) (by
            intro w hwm S'' l
            obtain ⟨S3, e3, l3⟩ := c_apart (d := d) (f := a) ha (u := w) (w := z) (S := S'') (hlen w hwm)
            have t : ev (C tbl (d + 1)) (.cmp .eq (.call a (.cons (.slot 5) (.cons (.idx (.slot 3) (.neg (.k (.int 1)))) .nil))) (.k (.int 1))) [some (.ref wr), some (tv u), some (tv o), some (.ref S.length), z4, some (tv w)] S'' = some (.bl (decide (ham w z = 1)), S3) :=
              ev_cmp (ev_call (evs_cons rfl (evs_cons (ev_idx rfl rfl (last_ix (l.get g) hz)) evs_nil)) e3) rfl (eq_nat (n := 1))
            by_cases q : decide (ham w z = 1) = true
            · rw [if_pos q]
              rw [q] at t
              exact ⟨S3, turn_t rfl t rfl, l3⟩
            · rw [if_neg q]
              rw [Bool.eq_false_iff.mpr q] at t
              exact ⟨S3, turn_f rfl t, l3⟩)
        rw [filterMap_if] at e2
        have i0 : ex (C tbl (d + 1)) 200 (bnth (YB a) 0) [some (.ref wr), some (tv u), some (tv o), some (.ref S.length), z4, none] S' = some (.nx, [some (.ref wr), some (tv u), some (tv o), some (.ref S.length), some (.ref S2.length), none], S2 ++ [.lst false (lv (W.filter fun w => decide (ham w z = 1)))]) :=
          ex_asg (ev_lc (evI_ex rfl (src_l hw')) (n := W.length) (by rw [itLen_l hw', lv_len]) e2) rfl
        have lB := l2.trans (Le.add S2 [Rf.Obj.lst false (lv (W.filter fun w => decide (ham w z = 1)))])
        have gB : (S2 ++ [Rf.Obj.lst false (lv (W.filter fun w => decide (ham w z = 1)))])[S2.length]? = some (.lst false (lv (W.filter fun w => decide (ham w z = 1)))) := get_last
        generalize (S2 ++ [Rf.Obj.lst false (lv (W.filter fun w => decide (ham w z = 1)))]) = SB at i0 lB gB
        generalize S2.length = nr at i0 gB
        have gR := lB.get g
        obtain ⟨S4, e4, l4⟩ := lc_map (f := dTurn [5] (asg (C tbl (d + 1)) (.slot 5)) (ev (C tbl (d + 1)) (.cmp .lt (.call a (.cons (.slot 5) (.cons (.slot 2) .nil))) (.call a (.cons (.idx (.slot 3) (.neg (.k (.int 1)))) (.cons (.slot 2) .nil))))) (ev (C tbl (d + 1)) (.slot 5)) [some (.ref wr), some (tv u), some (tv o), some (.ref S.length), some (.ref nr), none])
          (J := .seq (.l nr)) (ws := W.filter fun w => decide (ham w z = 1)) (t := tv) (S := SB) (fun w => if decide (ham w o < ham z o) = true then some (tv w) else none) (its_l gB) (by
            have := List.length_filter_le (fun w => decide (ham w z = 1)) W
            omega) (by
            intro w hwm S'' l
            have hwW := (List.mem_filter.mp hwm).1
            obtain ⟨S5, e5, l5⟩ := c_apart (d := d) (f := a) ha (u := w) (w := o) (S := S'') (hlen w hwW)
            obtain ⟨S6, e6, l6⟩ := c_apart (d := d) (f := a) ha (u := z) (w := o) (S := S5) (hlen z hzW)
            have t : ev (C tbl (d + 1)) (.cmp .lt (.call a (.cons (.slot 5) (.cons (.slot 2) .nil))) (.call a (.cons (.idx (.slot 3) (.neg (.k (.int 1)))) (.cons (.slot 2) .nil)))) [some (.ref wr), some (tv u), some (tv o), some (.ref S.length), some (.ref nr), some (tv w)] S'' = some (.bl (decide (ham w o < ham z o)), S6) :=
              ev_cmp (ev_call (evs_cons rfl (evs_cons rfl evs_nil)) e5) (ev_call (evs_cons (ev_idx rfl rfl (last_ix (l5.get (l.get gR)) hz)) (evs_cons rfl evs_nil)) e6) lt_nat
            by_cases q : decide (ham w o < ham z o) = true
            · rw [if_pos q]
              rw [q] at t
              exact ⟨S6, turn_t rfl t rfl, l5.trans l6⟩
            · rw [if_neg q]
              rw [Bool.eq_false_iff.mpr q] at t
              exact ⟨S6, turn_f rfl t, l5.trans l6⟩)
        rw [filterMap_if] at e4
        have hne : ((W.filter fun w => decide (ham w z = 1)).filter fun w => decide (ham w o < ham z o)) ≠ [] := by
          obtain ⟨w, hwm, h1, h2⟩ := h.step z hzW o ho hzo
          intro q
          have : w ∈ ((W.filter fun w => decide (ham w z = 1)).filter fun w => decide (ham w o < ham z o)) := by
            rw [List.mem_filter, List.mem_filter, decide_eq_true_eq, decide_eq_true_eq, ham_sym w z]
            exact ⟨⟨hwm, h1⟩, by omega⟩
          rw [q] at this; cases this
        match hq : ((W.filter fun w => decide (ham w z = 1)).filter fun w => decide (ham w o < ham z o)), hne with
        | w :: rest, _ =>
          have hwm : w ∈ ((W.filter fun w => decide (ham w z = 1)).filter fun w => decide (ham w o < ham z o)) := by rw [hq]; exact List.mem_cons_self
          rw [List.mem_filter, List.mem_filter, decide_eq_true_eq, decide_eq_true_eq] at hwm
          obtain ⟨⟨hwW, h1⟩, h2⟩ := hwm
          obtain ⟨p', he⟩ := p.snoc h ho hz hwW h1 h2
          change lcGo _ _ _ _ _ _ = some (lv ((W.filter fun w => decide (ham w z = 1)).filter fun w => decide (ham w o < ham z o)), S4) at e4
          rw [hq] at e4
          have el := ev_lc (elt := .slot 5) (t := .slot 5) (cnd := .cmp .lt (.call a (.cons (.slot 5) (.cons (.slot 2) .nil))) (.call a (.cons (.idx (.slot 3) (.neg (.k (.int 1)))) (.cons (.slot 2) .nil)))) (own := [5]) (evI_ex (a := .slot 4) (cf := C tbl (d + 1)) (ρ := [some (.ref wr), some (tv u), some (tv o), some (.ref S.length), some (.ref nr), none]) rfl (src_l gB)) (n := (W.filter fun w => decide (ham w z = 1)).length) (by rw [itLen_l gB, lv_len]) e4
          have lC := l4.trans (Le.add S4 [Rf.Obj.lst false (lv (w :: rest))])
          have gC : (S4 ++ [Rf.Obj.lst false (lv (w :: rest))])[S4.length]? = some (.lst false (lv (w :: rest))) := get_last
          generalize (S4 ++ [Rf.Obj.lst false (lv (w :: rest))]) = SC at el lC gC
          have gR2 := lC.get gR
          have hRl : R.length < 1000 := by
            have hp := p.far (R.length - 1) z (by rw [← List.getLast?_eq_getElem?]; exact hz)
            have h3 := ham_le u o
            have h4 := h.len u hu
            omega
          have happ : mtV .append (.ref S.length) [tv w] SC = some (.non, SC.set S.length (.lst false (lv (R ++ [w])))) := by
            rw [app_lst gR2 (by rw [lv_len]; omega), lv_app]; rfl
          refine ⟨_, _, exs_nx i0 (exs_nx (ex_ex (ev_mt rfl (rcv_lst gR) (evs_cons (ev_idx el rfl (ix_lst gC (at_nat (i := 0) rfl))) evs_nil) happ)) exs_nil), ham w o, by omega, R ++ [w], w, _, rfl, ((kp.trans (Kp.of (lB.trans lC))).set (Nat.le_refl _)), set_at gR2, p', by simp, rfl⟩)
  exact ⟨S.length, R, S1, (callF_at (F := DWayW a) hTab rfl).trans (run_ret (exs_nx (ex_asg (ev_lst (evs_cons rfl evs_nil) (show 1 ≤ 1000000 by decide)) rfl) (exs_nx (ex_whl e1) (exs_ret (ex_ret rfl))))), k1, g1, p1⟩
end CG

/-! CG15: lots drawn, of either kind. -/
namespace CG
open Rf Cm
variable {tbl : List FD} {d : Nat} {S : Store} {p o h w m a : Nat} {most dd M i : Nat} {a4 a5 a6 : Option Val} {md : Bool}
structure Good (md : Bool) (W : List (List Int)) : Prop where
  bin : Bin W
  med : md = true → Med W
theorem Good.perm {W W' : List (List Int)} (g : Good md W) (q : W'.Perm W) : Good md W' := ⟨g.bin.perm q, fun e => (g.med e).perm q⟩
theorem lapG {d : Nat} (hp : tbl[p]? = some DPickG) (ho : tbl[o]? = some (DOf p)) (hh : tbl[h]? = some DHullW) (hw : tbl[w]? = some (DWayW a)) (ha : tbl[a]? = some DApart) {wr : Nat} {W : List (List Int)} (hs : SrcOk S) (hM : most ≤ M) (hL : Lot S wr dd M W) (hG : Good md W) (hm : M < 1000) (hd : dd < 140) :
    ∃ a5' a6' wr' W' dd' S', exs (C tbl (d + 2)) 200 (GB p o h w m) (EW most md (some (.ref wr)) a4 a5 a6) S = some (.nx, EW most md (some (.ref wr')) a4 a5' a6' , S') ∧ Fr S S' ∧ Lot S' wr' dd' M W' ∧ dd' ≤ dd + 1 ∧ Good md W' := by
  have hlo := hL.lo
  have hf := hL.few
  obtain ⟨j, S1, hj, e1, f1⟩ := c_pgn (d := d + 1) hp (m := 3) hs (by decide) (by decide)
  have hw1 := f1.keep wr _ (by omega) (by omega) hL.at_
  obtain ⟨ss, S2, e2, f2, hl2, hm2⟩ := some_words (d := d) ho hp (ρ := EW most md (some (.ref wr)) a4 a5 a6) (i := 3) (n := 1 + j) (tg := .slot 7) (own := [7]) f1.src hw1 hL.ne (by omega) (by omega) (by omega) (by omega) (fun v S => ⟨_, rfl, rfl, rfl⟩)
  match ss, hl2, hm2, e2 with
  | [], hl2, _, _ => simp at hl2; omega
  | s0 :: ss, hl2, hm2, e2 =>
    have f12 := f1.trans f2
    have i0 : ex (C tbl (d + 2)) 200 (bnth (GB p o h w m) 0) (EW most md (some (.ref wr)) a4 a5 a6) S = some (.nx, EW most md (some (.ref wr)) a4 (some (.ref S2.length)) a6, S2 ++ [.lst false (lv (s0 :: ss))]) :=
      ex_asg (ev_lc (evI_rng1 (j := ((1 + j : Nat) : Int)) (evs_cons (ev_bin rfl (ev_call (evs_cons rfl (evs_cons rfl evs_nil)) e1) (nadd (a := 1))) evs_nil) (rng_small (by omega))) (n := 1 + j) (Int.toNat_natCast _) e2) rfl
    have fA := f12.le2 (Le.add S2 [Rf.Obj.lst false (lv (s0 :: ss))])
    have gA : (S2 ++ [Rf.Obj.lst false (lv (s0 :: ss))])[S2.length]? = some (.lst false (lv (s0 :: ss))) := get_last
    generalize (S2 ++ [Rf.Obj.lst false (lv (s0 :: ss))]) = SA at i0 fA gA
    generalize S2.length = sr at i0 gA
    have hwA := fA.keep wr _ (by omega) (by omega) hL.at_
    rw [List.length_cons] at hl2
    obtain ⟨pr, S3, e3, l3, g3⟩ := c_hullw (d := d + 1) (f := h) hh hwA gA hL.iso.len (fun w hw => hL.iso.len w (hm2 w hw)) (by omega) (by omega) (by omega)
    have f3 := fA.le2 l3
    have i1 : ex (C tbl (d + 2)) 200 (bnth (GB p o h w m) 1) (EW most md (some (.ref wr)) a4 (some (.ref sr)) a6) SA = some (.nx, EW most md (some (.ref wr)) a4 (some (.ref sr)) (some (.ref pr)), S3) := ex_asg (ev_call (evs_cons rfl (evs_cons rfl evs_nil)) e3) rfl
    cases md with
    | true =>
      have hL3 : Lot S3 wr dd M W := ⟨l3.get hwA, hL.iso, hL.ne, hL.few, hL.lo⟩
      have i2 : ex (C tbl (d + 2)) 200 (bnth (GB p o h w m) 2) (EW most true (some (.ref wr)) a4 (some (.ref sr)) (some (.ref pr))) S3 = some (.nx, EW most true (some (.ref wr)) a4 (some (.ref sr)) (some (.ref pr)), S3) := ex_else (ev_not (q := true) rfl) exs_nil
      obtain ⟨wr', W', dd', S4, e4, l4, hL4, hd4, hW⟩ := grow_part (p := p) (o := o) (h := h) (w := w) (m := m) (cf := C tbl (d + 2)) (a4 := a4) (a5 := some (.ref sr)) (md := true) hM hL3 (hull_sub (s0 := s0) (al := alikeL dd s0 ss) hL.iso) g3 (by omega) (by omega)
      refine ⟨_, _, wr', W', dd', S4, exs_nx i0 (exs_nx i1 (exs_nx i2 (exs_nx e4 exs_nil))), f3.le2 l4, hL4, hd4, ?_⟩
      rcases hW with ⟨_, rfl⟩ | rfl
      · exact hG
      · exact ⟨bin_expd hG.bin fun w hw => (mem_hull.mp hw).1, fun _ => med_expd hL.iso hG.bin (hG.med rfl) (fun i hi => List.mem_range.mp (List.mem_filter.mp hi).1) (hL.iso.len s0 (hm2 s0 List.mem_cons_self))⟩
    | false =>
      obtain ⟨z, hz⟩ : ∃ z, (s0 :: ss).getLast? = some z := ⟨_, List.getLast?_eq_some_getLast (by simp)⟩
      have hzm : z ∈ s0 :: ss := by
        rw [List.getLast?_eq_getElem?] at hz
        exact List.mem_of_getElem? hz
      have gs := l3.get gA
      obtain ⟨yr, R, S4, e4, k4, g4, w4⟩ := c_way (d := d) (f := w) hw ha (l3.get hwA) hL.iso (hm2 s0 List.mem_cons_self) (hm2 z hzm) (by omega) (by omega)
      have i2 : ex (C tbl (d + 2)) 200 (bnth (GB p o h w m) 2) (EW most false (some (.ref wr)) a4 (some (.ref sr)) (some (.ref pr))) S3 = some (.nx, EW most false (some (.ref wr)) a4 (some (.ref sr)) (some (.ref yr)), S4) :=
        ex_if (ev_not (q := false) rfl) (exs_nx (ex_asg (ev_call (evs_cons rfl (evs_cons (ev_idx rfl rfl (ix_lst gs (at_nat (i := 0) rfl))) (evs_cons (ev_idx rfl rfl (last_ix gs hz)) evs_nil))) e4) rfl) exs_nil)
      have hL4 : Lot S4 wr dd M W := ⟨k4 _ _ (l3.get hwA), hL.iso, hL.ne, hL.few, hL.lo⟩
      obtain ⟨wr', W', dd', S5, e5, l5, hL5, hd5, hW⟩ := grow_part (p := p) (o := o) (h := h) (w := w) (m := m) (cf := C tbl (d + 2)) (a4 := a4) (a5 := some (.ref sr)) (md := false) hM hL4 (w4.toSub hL.iso (hm2 z hzm)) g4 (by omega) (by omega)
      refine ⟨_, _, wr', W', dd', S5, exs_nx i0 (exs_nx i1 (exs_nx i2 (exs_nx e5 exs_nil))), (f3.kp2 k4).le2 l5, hL5, hd5, ?_⟩
      rcases hW with ⟨_, rfl⟩ | rfl
      · exact hG
      · exact ⟨bin_expd hG.bin w4.sub, fun e => by cases e⟩
/-- the ring of six -/
def W6 : List (List Int) := [[0, 0, 0], [1, 0, 0], [1, 1, 0], [1, 1, 1], [0, 1, 1], [0, 0, 1]]
theorem iso6 : Iso 3 W6 := ⟨by decide, by decide, by decide⟩
theorem bin6 : Bin W6 := by unfold Bin; decide
/-- _law_words -/
theorem c_wordsG {f : Nat} (hTab : tbl[f]? = some (DWordsG p o h w m)) (hp : tbl[p]? = some DPickG) (ho : tbl[o]? = some (DOf p)) (hh : tbl[h]? = some DHullW) (hw : tbl[w]? = some (DWayW a)) (ha : tbl[a]? = some DApart) (hmx : tbl[m]? = some (DMixed p)) {d : Nat} (hs : SrcOk S) (h1 : 1 ≤ most) (hm : most < 900) :
    ∃ q dd W S', C tbl (d + 3) f [.ref 3, .int (most : Int), .bl md] S = some (.ref q, S') ∧ Fr S S' ∧ Lot S' q dd (most + 6) W ∧ dd ≤ 9 ∧ Good md W := by
  have h4 := src_len4 hs
  have i0 : ex (C tbl (d + 2)) 200 (bnth (DWordsG p o h w m).body 0) (startE (DWordsG p o h w m) [.ref 3, .int (most : Int), .bl md]) S = some (.nx, EW most md (some (.ref S.length)) none none none, S ++ [.lst false (lv [[]])]) :=
    ex_asg (ev_lst (evs_cons (ev_tup evs_nil (show 0 ≤ 1000000 by decide)) evs_nil) (show 1 ≤ 1000000 by decide)) rfl
  have f0 := Fr.le hs (Le.add S [Rf.Obj.lst false (lv [[]])])
  have g0 : (S ++ [Rf.Obj.lst false (lv [[]])])[S.length]? = some (.lst false (lv [[]])) := get_last
  have L0 : Lot (S ++ [Rf.Obj.lst false (lv [[]])]) S.length 0 (most + 6) [[]] := ⟨g0, iso_one, by simp, by simp, h4⟩
  have G0 : Good md [[]] := ⟨fun w hw x hx => (by rw [List.mem_singleton.mp hw] at hx; cases hx), fun _ a ha b hb c hc => (by rw [List.mem_singleton.mp ha, List.mem_singleton.mp hb, List.mem_singleton.mp hc]; exact List.mem_singleton.mpr rfl)⟩
  have i1 : ∃ wr W dd S1, ex (C tbl (d + 2)) 200 (bnth (DWordsG p o h w m).body 1) (EW most md (some (.ref S.length)) none none none) (S ++ [.lst false (lv [[]])]) = some (.nx, EW most md (some (.ref wr)) none none none, S1) ∧ Fr S S1 ∧ Lot S1 wr dd (most + 6) W ∧ dd ≤ 3 ∧ Good md W := by
    cases md with
    | true => exact ⟨_, _, _, _, ex_else (ev_and0 (ev_not (q := true) rfl)) exs_nil, f0, L0, by decide, G0⟩
    | false =>
      obtain ⟨k, S1, hk, e1, f1⟩ := c_pgn (d := d + 1) hp (m := 2) f0.src (by decide) (by decide)
      have t : ev (C tbl (d + 2)) (.and (.not (.slot 2)) (.cmp .eq (.call p (.cons (.slot 0) (.cons (.k (.int 2)) .nil))) (.k (.int 0)))) (EW most false (some (.ref S.length)) none none none) (S ++ [.lst false (lv [[]])]) = some (.bl (decide (k = 0)), S1) :=
        ev_and1 (ev_not (q := false) rfl) (ev_cmp (ev_call (evs_cons rfl (evs_cons rfl evs_nil)) e1) rfl (eq_nat (n := 0)))
      have fr1 := f0.trans f1
      by_cases hk0 : k = 0
      · rw [decide_eq_true hk0] at t
        have e6 : ∀ ρ, ev (C tbl (d + 2)) (.lst (.cons (.tup (.cons (.k (.int 0)) (.cons (.k (.int 0)) (.cons (.k (.int 0)) .nil)))) (.cons (.tup (.cons (.k (.int 1)) (.cons (.k (.int 0)) (.cons (.k (.int 0)) .nil)))) (.cons (.tup (.cons (.k (.int 1)) (.cons (.k (.int 1)) (.cons (.k (.int 0)) .nil)))) (.cons (.tup (.cons (.k (.int 1)) (.cons (.k (.int 1)) (.cons (.k (.int 1)) .nil)))) (.cons (.tup (.cons (.k (.int 0)) (.cons (.k (.int 1)) (.cons (.k (.int 1)) .nil)))) (.cons (.tup (.cons (.k (.int 0)) (.cons (.k (.int 0)) (.cons (.k (.int 1)) .nil)))) .nil))))))) ρ S1 = some (.ref S1.length, S1 ++ [.lst false (lv W6)]) := fun ρ => by
          have t3 : ∀ (x y z : Int), ev (C tbl (d + 2)) (.tup (.cons (.k (.int x)) (.cons (.k (.int y)) (.cons (.k (.int z)) .nil)))) ρ S1 = some (tv [x, y, z], S1) := fun x y z => ev_tup (evs_cons rfl (evs_cons rfl (evs_cons rfl evs_nil))) (show 3 ≤ 1000000 by decide)
          exact ev_lst (evs_cons (t3 0 0 0) (evs_cons (t3 1 0 0) (evs_cons (t3 1 1 0) (evs_cons (t3 1 1 1) (evs_cons (t3 0 1 1) (evs_cons (t3 0 0 1) evs_nil)))))) (show 6 ≤ 1000000 by decide)
        have hS1 := src_len4 f1.src
        exact ⟨S1.length, W6, 3, _, ex_if t (exs_nx (ex_asg (e6 _) rfl) exs_nil), fr1.le2 (Le.add _ _), ⟨get_last, iso6, by decide, by show 6 ≤ _; omega, hS1⟩, by decide, ⟨bin6, fun e => by cases e⟩⟩
      · rw [decide_eq_false hk0] at t
        exact ⟨S.length, [[]], 0, S1, ex_else t exs_nil, fr1, ⟨f1.keep _ _ (by omega) (by omega) g0, iso_one, by simp, by simp, h4⟩, by decide, G0⟩
  obtain ⟨wr0, W0, dd0, SB, i1, fB, LB, hdB, GB0⟩ := i1
  have hlB := LB.lo
  obtain ⟨n, S1, hn, e1, f1⟩ := c_pgn (d := d + 1) hp (m := 7) fB.src (by decide) (by decide)
  have L1 : Lot S1 wr0 dd0 (most + 6) W0 := ⟨f1.keep _ _ (by omega) (by omega) LB.at_, LB.iso, LB.ne, LB.few, LB.lo⟩
  obtain ⟨ρ2, S2, e2, wr, W, dd, z4, z5, z6, rfl, f2, hL, hdd, hG⟩ := loop_inv (set := asg (C tbl (d + 2)) (.slot 4)) (body := exs (C tbl (d + 2)) 200 (GB p o h w m)) (J := .rng 0 1 n) (vs := (List.range n).map fun i : Nat => .int (0 + (i : Int))) (ρ := EW most md (some (.ref wr0)) none none none) (S := S1)
    (fun i ρ S' => ∃ wr W dd z4 z5 z6, ρ = EW most md (some (.ref wr)) z4 z5 z6 ∧ Fr S S' ∧ Lot S' wr dd (most + 6) W ∧ dd ≤ 3 + i ∧ Good md W) ⟨wr0, W0, dd0, none, none, none, rfl, fB.trans f1, L1, by omega, GB0⟩ (fun i ρ S' _ => its_rng S' (.refl _) i) (by
      rintro i v ρ S' ⟨wr, W, dd, z4, z5, z6, rfl, fr, hL, hdd, hG⟩ hv
      have hi : i < n := by
        have := (List.getElem?_eq_some_iff.mp hv).1
        simpa using this
      obtain ⟨a5', a6', wr', W', dd', S3, e3, f3, hL3, hd3, hG3⟩ := lapG (d := d) (m := m) (a4 := some v) (a5 := z5) (a6 := z6) hp ho hh hw ha fr.src (by omega : most ≤ most + 6) hL hG (by omega) (by omega)
      exact ⟨_, _, rfl, _, _, e3, wr', W', dd', _, _, _, rfl, fr.trans f3, hL3, by omega, hG3⟩)
  rw [List.length_map, List.length_range] at e2 hdd
  have i2 : ex (C tbl (d + 2)) 200 (bnth (DWordsG p o h w m).body 2) (EW most md (some (.ref wr0)) none none none) SB = some (.nx, EW most md (some (.ref wr)) z4 z5 z6, S2) :=
    ex_loop (evI_rng1 (j := (n : Int)) (evs_cons (ev_call (evs_cons rfl (evs_cons rfl evs_nil)) e1) evs_nil) (rng_small (by omega))) (n := n) (Int.toNat_natCast _) e2
  have hfew := hL.few
  obtain ⟨ys, q, S3, e3, g3, p3, f3, hq⟩ := c_mixed (d := d) hmx hp f2.src hL.at_ (by rw [lv_len]; omega)
  obtain ⟨W', rfl, hp'⟩ := perm_of_map (f := tv) p3 (n := W) rfl
  have := src_len4 f2.src
  refine ⟨q, dd, W', S3, (callF_at (F := DWordsG p o h w m) hTab rfl).trans (run_ret (exs_nx i0 (exs_nx i1 (exs_nx i2 (exs_ret (ex_ret (ev_call (evs_cons rfl (evs_cons rfl evs_nil)) e3))))))), f2.trans f3, ⟨g3, hL.iso.perm hp', ?_, by rw [hp'.length_eq]; exact hL.few, by omega⟩, by omega, hG.perm hp'⟩
  intro e
  subst e
  exact hL.ne (List.nil_perm.mp hp')
end CG

/-! CG16: better places, steps down. -/
namespace CG
open Rf Cm
def DBet : FD := ⟨3, 5, 
  (.cons (.asg (.slot 3) (.lc (.tup (.cons (.idx (.slot 1) (.slot 4)) (.cons (.slot 4) .nil))) (.slot 4) (.ex (.idx (.slot 0) (.slot 2))) (.cmp .lt (.idx (.slot 1) (.slot 4)) (.idx (.slot 1) (.slot 2))) [4]))
  (.cons (.ret (.ife (.cmp .ne (.slot 3) (.lst .nil)) (.idx (.bi .min (.cons (.slot 3) .nil)) (.k (.int 1))) (.k .non)))
  .nil))⟩
def DBetP (b n s : Nat) : FD := ⟨3, 3, 
  (.cons (.ret (.call b (.cons (.call n (.cons (.slot 0) .nil)) (.cons (.call s (.cons (.slot 0) (.cons (.slot 1) .nil))) (.cons (.slot 2) .nil)))))
  .nil)⟩
def DDown (b n s : Nat) : FD := ⟨3, 7, 
  (.cons (.asg (.tup (.cons (.slot 4) (.cons (.slot 5) (.cons (.slot 6) .nil)))) (.tup (.cons (.call n (.cons (.slot 0) .nil)) (.cons (.call s (.cons (.slot 0) (.cons (.slot 1) .nil))) (.cons (.lst (.cons (.slot 2) .nil)) .nil)))))
  (.cons (.asg (.slot 3) (.call b (.cons (.slot 4) (.cons (.slot 5) (.cons (.slot 2) .nil)))))
  (.cons (.whl (.cmp .isnot (.slot 3) (.k .non)) ((.cons (.ex (.mt .append (.slot 6) (.cons (.slot 3) .nil)))
    (.cons (.asg (.slot 3) (.call b (.cons (.slot 4) (.cons (.slot 5) (.cons (.slot 3) .nil)))))
    .nil))))
  (.cons (.ret (.bi .tuple (.cons (.slot 6) .nil)))
  .nil))))⟩
def DUnb (b n s : Nat) : FD := ⟨2, 5, 
  (.cons (.asg (.tup (.cons (.slot 2) (.cons (.slot 3) .nil))) (.tup (.cons (.call n (.cons (.slot 0) .nil)) (.cons (.call s (.cons (.slot 0) (.cons (.slot 1) .nil))) .nil))))
  (.cons (.ret (.bi .tuple (.cons (.lc (.slot 4) (.slot 4) (.rng (.cons (.idx (.slot 0) (.k (.int 0))) .nil)) (.cmp .is (.call b (.cons (.slot 2) (.cons (.slot 3) (.cons (.slot 4) .nil)))) (.k .non)) [4]) .nil)))
  .nil))⟩
variable {tbl : List FD} {d : Nat} {S : Store}
/-! ### the least of pairs -/
def dP (t : Nat × Nat) : PySem.PyData := .tuple [.int (t.1 : Int), .int (t.2 : Int)]
def foldP (x : Nat × Nat) (l : List (Nat × Nat)) : Nat × Nat := l.foldl (fun a y => if PySem.W.dataLt (dP y) (dP a) then y else a) x
theorem foldP_mem : ∀ (l : List (Nat × Nat)) (x : Nat × Nat), foldP x l ∈ x :: l
  | [], x => List.mem_singleton.mpr rfl
  | y :: l, x => by
    have ih := foldP_mem l (if PySem.W.dataLt (dP y) (dP x) then y else x)
    have e : foldP x (y :: l) = foldP (if PySem.W.dataLt (dP y) (dP x) then y else x) l := rfl
    rw [e]
    rcases List.mem_cons.mp ih with h | h
    · rw [h]
      split
      · exact List.mem_cons_of_mem _ List.mem_cons_self
      · exact List.mem_cons_self
    · exact List.mem_cons_of_mem _ (List.mem_cons_of_mem _ h)
theorem dat_tie (t : Nat × Nat) : Rf.dataOf S (tieV t) = some (dP t) := rfl
theorem minB_pairs (x : Nat × Nat) (l : List (Nat × Nat)) : minB S ((x :: l).map tieV) = some (tieV (foldP x l)) := by
  have hm : ∀ l : List (Nat × Nat), mapO (Rf.dataOf S) (l.map tieV) = some (l.map dP) := by
    intro l
    induction l with
    | nil => rfl
    | cons y l ih => simp only [List.map_cons, mapO, dat_tie, ih]
  have hp : ∀ l : List (Nat × Nat), pureVs (l.map tieV) = true := by
    intro l
    induction l with
    | nil => rfl
    | cons y l ih =>
      show (pureV (tieV y) && pureVs (l.map tieV)) = true
      rw [ih]; rfl
  have ha : ∀ l : List (Nat × Nat), alikeB (l.map dP) = true := by
    intro l
    unfold alikeB
    rw [List.all_eq_true]
    intro e he
    obtain ⟨i, _, rfl⟩ := List.mem_map.mp he
    rw [Bool.and_eq_true, List.all_eq_true]
    refine ⟨fun e he => ?_, rfl⟩
    obtain ⟨j, _, rfl⟩ := List.mem_map.mp he
    rfl
  have hd : ∀ l : List (Nat × Nat), PySem.PyData.depthAll (l.map dP) ≤ 1 := by
    intro l
    induction l with
    | nil => exact Nat.zero_le _
    | cons y l ih =>
      rw [List.map_cons]
      simp only [PySem.PyData.depthAll]
      have : PySem.PyData.depth (dP y) ≤ 1 := Nat.le_refl _
      omega
  have hf : ∀ (l : List (Nat × Nat)) (x : Nat × Nat), (l.map tieV).foldl (fun a y => if PySem.W.dataLt (dOf S y) (dOf S a) then y else a) (tieV x) = tieV (foldP x l) := by
    intro l
    induction l with
    | nil => intro x; rfl
    | cons y l ih =>
      intro x
      rw [List.map_cons, List.foldl_cons]
      have e : (if PySem.W.dataLt (dOf S (tieV y)) (dOf S (tieV x)) = true then tieV y else tieV x) = tieV (if PySem.W.dataLt (dP y) (dP x) = true then y else x) := by
        have e0 : PySem.W.dataLt (dOf S (tieV y)) (dOf S (tieV x)) = PySem.W.dataLt (dP y) (dP x) := rfl
        rw [e0]
        split <;> rfl
      rw [e, ih]; rfl
  have h1 : mapO (Rf.dataOf S) (tieV x :: l.map tieV) = some ((x :: l).map dP) := hm (x :: l)
  have h2 : pureVs (tieV x :: l.map tieV) = true := hp (x :: l)
  have h3 := ha (x :: l)
  have h4 := hd (x :: l)
  show minB S (tieV x :: l.map tieV) = _
  simp only [minB, h1, h2, h3, decide_eq_true (show PySem.PyData.depthAll ((x :: l).map dP) ≤ 60 by omega), hf, Bool.true_and, Bool.and_self, if_true]
theorem min_pairs {r : Nat} {k : Bool} {x : Nat × Nat} {l : List (Nat × Nat)} (h : S[r]? = some (.lst k ((x :: l).map tieV))) : biV .min [.ref r] S = some (tieV (foldP x l), S) := by
  simp only [biV, h]
  rw [minB_pairs]; rfl
/-! ### better places -/
def fs1 (W : List (List Int)) (v : List Nat) (x : Nat) : Nat := dot v (rowL W x)
def cand (W : List (List Int)) (v : List Nat) (x : Nat) : List Nat := (List.range W.length).filter fun y => adjW W x y && decide (fs1 W v y < fs1 W v x)
def pairsC (W : List (List Int)) (v : List Nat) (x : Nat) : List (Nat × Nat) := (cand W v x).map fun y => (fs1 W v y, y)
def bestL : List (Nat × Nat) → Option Nat
  | [] => none
  | t :: l => some (foldP t l).2
def best (W : List (List Int)) (v : List Nat) (x : Nat) : Option Nat := bestL (pairsC W v x)
theorem best_some {W : List (List Int)} {v : List Nat} {x y : Nat} (h : best W v x = some y) : y < W.length ∧ adjW W x y = true ∧ fs1 W v y < fs1 W v x := by
  unfold best at h
  match hp : pairsC W v x, h with
  | t :: l, h =>
    have hm := foldP_mem l t
    rw [← hp] at hm
    unfold pairsC at hm
    obtain ⟨z, hz, e⟩ := List.mem_map.mp hm
    have h2 : (foldP t l).2 = y := Option.some.inj h
    rw [← e] at h2
    dsimp only at h2
    subst h2
    unfold cand at hz
    rw [List.mem_filter, List.mem_range, Bool.and_eq_true, decide_eq_true_eq] at hz
    exact ⟨hz.1, hz.2.1, hz.2.2⟩
theorem best_none {W : List (List Int)} {v : List Nat} {x : Nat} (h : best W v x = none) {y : Nat} (hy : y < W.length) (ha : adjW W x y = true) : fs1 W v x ≤ fs1 W v y := by
  apply Nat.le_of_not_lt
  intro hlt
  have hm : y ∈ cand W v x := by
    unfold cand
    rw [List.mem_filter, List.mem_range, Bool.and_eq_true, decide_eq_true_eq]
    exact ⟨hy, ha, hlt⟩
  unfold best pairsC at h
  match hc : cand W v x, hm with
  | z :: l, _ =>
    rw [hc, List.map_cons] at h
    cases h
theorem best_of_least {W : List (List Int)} {v : List Nat} {x : Nat} (h : ∀ y, y < W.length → fs1 W v x ≤ fs1 W v y) : best W v x = none := by
  match hb : best W v x with
  | none => rfl
  | some y =>
    obtain ⟨h1, _, h3⟩ := best_some hb
    have := h y h1
    omega
theorem tie_lv (l : List (Nat × Nat)) : l.map tieV = lv (l.map pz) := zi_pz l
/-- the shared end: the least of the pairs, or none -/
theorem ev_best {cf : CF} {i r : Nat} {k : Bool} {l : List (Nat × Nat)} {ρ : Rf.Env} (h : ρ[i]? = some (some (.ref r))) (g : S[r]? = some (.lst k (l.map tieV))) :
    ∃ S', ev cf (.ife (.cmp .ne (.slot i) (.lst .nil)) (.idx (.bi .min (.cons (.slot i) .nil)) (.k (.int 1))) (.k .non)) ρ S = some (oV (bestL l), S') ∧ Le S S' := by
  have hs : ∀ T, ev cf (.slot i) ρ T = some (.ref r, T) := fun T => by show (match ρ[i]? with | some (some v) => some (v, T) | _ => none) = _; rw [h]
  have t : ev cf (.cmp .ne (.slot i) (.lst .nil)) ρ S = some (.bl (!decide (l.map pz = [])), S ++ [.lst false (lv [])]) := by
    refine ev_cmp (hs S) (ev_lst evs_nil (show 0 ≤ 1000000 by decide)) ?_
    rw [tie_lv] at g
    exact ne_ll ((Le.add S [Rf.Obj.lst false (lv [])]).get g) get_last
  cases l with
  | nil => exact ⟨_, ev_ifef t rfl, .add _ _⟩
  | cons x l =>
    rw [decide_eq_false (by simp)] at t
    exact ⟨_, ev_ifet t (ev_idx (ev_bi (evs_cons (hs _) evs_nil) (min_pairs ((Le.add _ _).get g))) rfl rfl), .add _ _⟩
theorem nbr_cand {W : List (List Int)} {ts : List (Nat × Nat)} (hW : WebOf W ts) {v : List Nat} {x : Nat} (hx : x < W.length) : (nbr ts W.length x).filter (fun y => decide (fs1 W v y < fs1 W v x)) = cand W v x := by
  unfold nbr cand
  rw [List.filter_filter]
  refine List.filter_congr fun y hy => ?_
  have hm := hW.nbr x hx y
  unfold nbr at hm
  rw [List.mem_filter] at hm
  have hy' := List.mem_range.mp hy
  rw [Bool.and_comm]
  congr 1
  rw [Bool.eq_iff_iff]
  constructor
  · intro q; exact (hm.mp ⟨hy, q⟩).2
  · intro q; exact (hm.mpr ⟨hy', q⟩).2
theorem sums_ix {W : List (List Int)} {v : List Nat} {x : Nat} (hx : x < W.length) : ixV (.tup (nv (sumsL W v))) (.int (x : Int)) S = some (.int (fs1 W v x : Nat)) := by
  show L2.atI (nv (sumsL W v)) (x : Int) = _
  refine at_nat ?_
  unfold nv sumsL
  rw [List.map_map, List.getElem?_map, List.getElem?_range hx]; rfl
theorem sums_ixl {W : List (List Int)} {v : List Nat} {x r : Nat} {k : Bool} (h : S[r]? = some (.lst k (nv (sumsL W v)))) (hx : x < W.length) : ixV (.ref r) (.int (x : Int)) S = some (.int (fs1 W v x : Nat)) := by
  refine ix_lst h (at_nat ?_)
  unfold nv sumsL
  rw [List.map_map, List.getElem?_map, List.getElem?_range hx]; rfl
theorem c_bet {f : Nat} (hTab : tbl[f]? = some DBet) {W : List (List Int)} {ts : List (Nat × Nat)} (hW : WebOf W ts) (hl : W.length < 1000) {v : List Nat} {r x : Nat} (hN : NearOk S r W.length (nbr ts W.length)) (hx : x < W.length) :
    ∃ S', C tbl (d + 1) f [.ref r, .tup (nv (sumsL W v)), .int (x : Int)] S = some (oV (best W v x), S') ∧ Le S S' := by
  obtain ⟨row, e1, g1⟩ := hN.at hx
  have hlen : (nbr ts W.length x).length ≤ W.length := by
    have := List.length_filter_le (fun b => decide ((x, b) ∈ ts ∨ (b, x) ∈ ts)) (List.range W.length)
    rw [List.length_range] at this
    exact this
  obtain ⟨S2, e2, l2⟩ := lc_map (f := dTurn [4] (asg (C tbl d) (.slot 4)) (ev (C tbl d) (.cmp .lt (.idx (.slot 1) (.slot 4)) (.idx (.slot 1) (.slot 2)))) (ev (C tbl d) (.tup (.cons (.idx (.slot 1) (.slot 4)) (.cons (.slot 4) .nil)))) [some (.ref r), some (.tup (nv (sumsL W v))), some (.int (x : Int)), none, none])
    (J := .seq (.l row)) (ws := nbr ts W.length x) (t := fun b : Nat => Val.int (b : Int)) (S := S) (fun y => if decide (fs1 W v y < fs1 W v x) = true then some (tieV (fs1 W v y, y)) else none) (by
      have := its_l g1
      unfold zi at this
      rwa [List.map_map] at this) (by omega) (by
      intro y hy S' _
      have hyl := ((hW.nbr x hx y).mp hy).1
      have t : ev (C tbl d) (.cmp .lt (.idx (.slot 1) (.slot 4)) (.idx (.slot 1) (.slot 2))) [some (.ref r), some (.tup (nv (sumsL W v))), some (.int (x : Int)), none, some (.int (y : Int))] S' = some (.bl (decide (fs1 W v y < fs1 W v x)), S') :=
        ev_cmp (ev_idx rfl rfl (sums_ix hyl)) (ev_idx rfl rfl (sums_ix hx)) lt_nat
      by_cases q : decide (fs1 W v y < fs1 W v x) = true
      · rw [if_pos q]
        rw [q] at t
        exact ⟨S', turn_t rfl t (ev_tup (evs_cons (ev_idx rfl rfl (sums_ix hyl)) (evs_cons rfl evs_nil)) (show 2 ≤ 1000000 by decide)), .refl _⟩
      · rw [if_neg q]
        rw [Bool.eq_false_iff.mpr q] at t
        exact ⟨S', turn_f rfl t, .refl _⟩)
  rw [filterMap_if, nbr_cand hW hx] at e2
  have em : (cand W v x).map (fun y => tieV (fs1 W v y, y)) = (pairsC W v x).map tieV := by unfold pairsC; rw [List.map_map]; rfl
  rw [em] at e2
  have i0 : ex (C tbl d) 200 (bnth DBet.body 0) [some (.ref r), some (.tup (nv (sumsL W v))), some (.int (x : Int)), none, none] S = some (.nx, [some (.ref r), some (.tup (nv (sumsL W v))), some (.int (x : Int)), some (.ref S2.length), none], S2 ++ [.lst false ((pairsC W v x).map tieV)]) :=
    ex_asg (ev_lc (evI_ex (ev_idx rfl rfl e1) (src_l g1)) (n := (nbr ts W.length x).length) (by rw [itLen_l g1, List.length_map, zi_len]) e2) rfl
  obtain ⟨S3, e3, l3⟩ := ev_best (cf := C tbl d) (i := 3) (ρ := [some (.ref r), some (.tup (nv (sumsL W v))), some (.int (x : Int)), some (.ref S2.length), none]) (S := S2 ++ [.lst false ((pairsC W v x).map tieV)]) rfl get_last
  exact ⟨S3, (callF_at (F := DBet) hTab rfl).trans (run_ret (exs_nx i0 (exs_ret (ex_ret e3)))), l2.trans ((Le.add _ _).trans l3)⟩
/-! ### steps down -/
inductive Down (W : List (List Int)) (v : List Nat) : Nat → List Nat → Prop where
  | stop {x : Nat} : best W v x = none → Down W v x [x]
  | step {x y : Nat} {l : List Nat} : best W v x = some y → Down W v y l → Down W v x (x :: l)
theorem Down.uniq {W : List (List Int)} {v : List Nat} {x : Nat} {l : List Nat} (h : Down W v x l) : ∀ {m : List Nat}, Down W v x m → l = m := by
  induction h with
  | stop hb =>
    intro m h2
    cases h2 with
    | stop _ => rfl
    | step hb2 _ => rw [hb] at hb2; cases hb2
  | step hb _ ih =>
    intro m h2
    cases h2 with
    | stop hb2 => rw [hb] at hb2; cases hb2
    | step hb2 h3 =>
      rw [hb] at hb2
      cases hb2
      rw [ih h3]
def cnt (W : List (List Int)) (v : List Nat) (x : Nat) : Nat := ((List.range W.length).filter fun y => decide (fs1 W v y < fs1 W v x)).length
theorem cnt_le (W : List (List Int)) (v : List Nat) (x : Nat) : cnt W v x ≤ W.length := by
  have := List.length_filter_le (fun y => decide (fs1 W v y < fs1 W v x)) (List.range W.length)
  rw [List.length_range] at this
  exact this
theorem filter_lt {α : Type} {p q : α → Bool} : ∀ {l : List α} {a : α}, a ∈ l → q a = true → p a = false → (∀ b ∈ l, p b = true → q b = true) → (l.filter p).length < (l.filter q).length
  | x :: l, a, ha, hq, hp, h => by
    have le : (l.filter p).length ≤ (l.filter q).length := by
      have hh : ∀ b ∈ l, p b = true → q b = true := fun b hb => h b (List.mem_cons_of_mem _ hb)
      clear ha h
      induction l with
      | nil => exact Nat.le_refl _
      | cons y l ih =>
        have := ih fun b hb => hh b (List.mem_cons_of_mem _ hb)
        rw [List.filter_cons, List.filter_cons]
        by_cases h1 : p y = true
        · rw [if_pos h1, if_pos (hh y List.mem_cons_self h1), List.length_cons, List.length_cons]; omega
        · rw [if_neg h1]
          split
          · rw [List.length_cons]; omega
          · exact this
    rw [List.filter_cons, List.filter_cons]
    rcases List.mem_cons.mp ha with e | e
    · subst e
      rw [hp, hq]
      simp only [Bool.false_eq_true, if_false, if_true, List.length_cons]
      omega
    · have lt := filter_lt (l := l) e hq hp fun b hb => h b (List.mem_cons_of_mem _ hb)
      by_cases h1 : p x = true
      · rw [if_pos h1, if_pos (h x List.mem_cons_self h1), List.length_cons, List.length_cons]; omega
      · rw [if_neg h1]
        split
        · rw [List.length_cons]; omega
        · exact lt
theorem cnt_lt {W : List (List Int)} {v : List Nat} {x y : Nat} (h : best W v x = some y) : cnt W v y < cnt W v x := by
  obtain ⟨h1, _, h3⟩ := best_some h
  refine filter_lt (a := y) (List.mem_range.mpr h1) (decide_eq_true h3) (decide_eq_false (Nat.lt_irrefl _)) fun b _ hb => ?_
  rw [decide_eq_true_eq] at hb ⊢
  omega
theorem isnot_o {o : Option Nat} {S : Store} : cmpV .isnot (oV o) .non S = some o.isSome := by cases o <;> rfl
theorem is_o {o : Option Nat} {S : Store} : cmpV .is (oV o) .non S = some o.isNone := by cases o <;> rfl
def VB (b n s : Nat) : B := loopB (bnth (DDown b n s).body 2)
theorem c_down {f b n0 s0 d0 f0 r0 : Nat} (hTab : tbl[f]? = some (DDown b n0 s0)) (hTb : tbl[b]? = some DBet) (hTs : tbl[s0]? = some (DFs d0 f0)) (hTd : tbl[d0]? = some (DDist n0 r0)) (hTf : tbl[f0]? = some DFsi) (hTn : tbl[n0]? = some DNeigh) (hTr : tbl[r0]? = some DRow) {dd : Nat} {W : List (List Int)} {ts : List (Nat × Nat)} (hI : Iso dd W) (hW : WebOf W ts) (hl : W.length < 64) (hd : dd < 150) {v : List Nat} (hv : v.length < 1000) {x : Nat} (hx : x < W.length) :
    ∃ R S', C tbl (d + 4) f [webV W.length ts, .tup (nv v), .int (x : Int)] S = some (.tup (nv R), S') ∧ Kp S S' ∧ Down W v x R := by
  have hf := hW.few
  have h3 : W.length * W.length ≤ 64 * 64 := Nat.mul_le_mul (by omega) (by omega)
  obtain ⟨r, S1, e1, k1, hN⟩ := c_near (d := d + 2) (S := S) hTn hW.ties (by omega) (by omega)
  obtain ⟨S2, e2, k2⟩ := c_fs (d := d) (S := S1) hTs hTd hTf hTn hTr hI hW hl hd hv
  have k12 := k1.trans k2
  have i0 : ex (C tbl (d + 3)) 200 (bnth (DDown b n0 s0).body 0) [some (webV W.length ts), some (.tup (nv v)), some (.int (x : Int)), none, none, none, none] S = some (.nx, [some (webV W.length ts), some (.tup (nv v)), some (.int (x : Int)), none, some (.ref r), some (.tup (nv (sumsL W v))), some (.ref S2.length)], S2 ++ [.lst false (nv [x])]) :=
    ex_asg (ev_tup (vs := [.ref r, .tup (nv (sumsL W v)), .ref S2.length]) (evs_cons (ev_call (evs_cons rfl evs_nil) e1) (evs_cons (ev_call (evs_cons rfl (evs_cons rfl evs_nil)) e2) (evs_cons (ev_lst (evs_cons rfl evs_nil) (show 1 ≤ 1000000 by decide)) evs_nil))) (show 3 ≤ 1000000 by decide)) rfl
  have kA := k12.trans (.add S2 [Rf.Obj.lst false (nv [x])])
  have gA : (S2 ++ [Rf.Obj.lst false (nv [x])])[S2.length]? = some (.lst false (nv [x])) := get_last
  have hlen := k12.len
  have hN1 := (hN.kp k2).kp (.add S2 [Rf.Obj.lst false (nv [x])])
  have hrl : r < S2.length ∧ ∀ a, a < W.length → ∃ c, c < S2.length ∧ ixV (.ref r) (.int (a : Int)) S2 = some (.ref c) := by
    obtain ⟨rs, h1, h2, h3⟩ := hN.kp k2
    refine ⟨(List.getElem?_eq_some_iff.mp h1).1, fun a ha => ?_⟩
    obtain ⟨c, hc1, hc2⟩ := h3 a ha
    exact ⟨c, (List.getElem?_eq_some_iff.mp hc2).1, ix_lst h1 (at_nat (by rw [List.getElem?_map, hc1]; rfl))⟩
  have keepN : ∀ {T : Store} {o : Rf.Obj}, NearOk S2 r W.length (nbr ts W.length) → Kp S2 T → NearOk (T.set S2.length o) r W.length (nbr ts W.length) := by
    intro T o hn k
    exact hn.kp (k.set (Nat.le_refl _))
  obtain ⟨S3, e3, l3⟩ := c_bet (d := d + 2) (S := S2 ++ [.lst false (nv [x])]) hTb hW (by omega) (v := v) hN1 hx
  have i1 : ex (C tbl (d + 3)) 200 (bnth (DDown b n0 s0).body 1) [some (webV W.length ts), some (.tup (nv v)), some (.int (x : Int)), none, some (.ref r), some (.tup (nv (sumsL W v))), some (.ref S2.length)] (S2 ++ [.lst false (nv [x])]) = some (.nx, [some (webV W.length ts), some (.tup (nv v)), some (.int (x : Int)), some (oV (best W v x)), some (.ref r), some (.tup (nv (sumsL W v))), some (.ref S2.length)], S3) :=
    ex_asg (ev_call (evs_cons rfl (evs_cons rfl (evs_cons rfl evs_nil))) e3) rfl
  have hNS2 := hN.kp k2
  obtain ⟨ρ', S4, e4, z3, rfl, k4, R, g4, hD⟩ := while_meas (test := ev (C tbl (d + 3)) (.cmp .isnot (.slot 3) (.k .non))) (body := exs (C tbl (d + 3)) 200 (VB b n0 s0)) (fu := 200) (n := cnt W v x) (ρ := [some (webV W.length ts), some (.tup (nv v)), some (.int (x : Int)), some (oV (best W v x)), some (.ref r), some (.tup (nv (sumsL W v))), some (.ref S2.length)]) (S := S3)
    (fun m ρ S' => ∃ (z : Nat) (pre : List Nat), ρ = [some (webV W.length ts), some (.tup (nv v)), some (.int (x : Int)), some (oV (best W v z)), some (.ref r), some (.tup (nv (sumsL W v))), some (.ref S2.length)] ∧ z < W.length ∧ Kp S2 S' ∧ S'[S2.length]? = some (.lst false (nv (pre ++ [z]))) ∧ (∀ l, Down W v z l → Down W v x (pre ++ l)) ∧ m = cnt W v z ∧ pre.length + cnt W v z ≤ W.length)
    (fun ρ S' => ∃ z3, ρ = [some (webV W.length ts), some (.tup (nv v)), some (.int (x : Int)), z3, some (.ref r), some (.tup (nv (sumsL W v))), some (.ref S2.length)] ∧ Kp S2 S' ∧ ∃ R, S'[S2.length]? = some (.lst false (nv R)) ∧ Down W v x R)
    ⟨x, [], rfl, hx, (Kp.add _ _).trans (Kp.of l3), l3.get gA, fun l h => h, rfl, by have := cnt_le W v x; simp; omega⟩ (by have := cnt_le W v x; omega) (by
      rintro m ρ S' ⟨z, pre, rfl, hz, kp, g, hd, rfl, hpl⟩
      have t : ev (C tbl (d + 3)) (.cmp .isnot (.slot 3) (.k .non)) [some (webV W.length ts), some (.tup (nv v)), some (.int (x : Int)), some (oV (best W v z)), some (.ref r), some (.tup (nv (sumsL W v))), some (.ref S2.length)] S' = some (.bl (best W v z).isSome, S') := ev_cmp rfl rfl isnot_o
      cases hb : best W v z with
      | none =>
        rw [hb] at t
        exact .inl ⟨S', t, _, rfl, kp, _, g, hd [z] (.stop hb)⟩
      | some y =>
        rw [hb] at t
        refine .inr ⟨S', t, ?_⟩
        obtain ⟨hy, _, _⟩ := best_some hb
        have hc := cnt_lt hb
        have happ : mtV .append (.ref S2.length) [.int (y : Int)] S' = some (.non, S'.set S2.length (.lst false (nv ((pre ++ [z]) ++ [y])))) := by
          rw [app_lst g (by rw [nv_len, List.length_append, List.length_singleton]; omega)]
          simp [nv]
        obtain ⟨S5, e5, l5⟩ := c_bet (d := d + 2) (S := S'.set S2.length (.lst false (nv ((pre ++ [z]) ++ [y])))) hTb hW (by omega) (v := v) (keepN hNS2 kp) hy
        refine ⟨_, S5, exs_nx (ex_ex (ev_mt rfl (rcv_lst g) (evs_cons rfl evs_nil) happ)) (exs_nx (ex_asg (ev_call (evs_cons rfl (evs_cons rfl (evs_cons rfl evs_nil))) e5) rfl) exs_nil), cnt W v y, hc, y, pre ++ [z], rfl, hy, (kp.set (Nat.le_refl _)).trans (Kp.of l5), l5.get (set_at g), fun l hl => ?_, rfl, ?_⟩
        · have := hd (z :: l) (.step hb hl)
          rwa [List.append_assoc]
        · rw [List.length_append, List.length_singleton]; omega)
  exact ⟨R, S4, (callF_at (F := DDown b n0 s0) hTab rfl).trans (run_ret (exs_nx i0 (exs_nx i1 (exs_nx (ex_whl e4) (exs_ret (ex_ret (ev_bi (evs_cons rfl evs_nil) (tup_lst g4)))))))), k12.trans k4, hD⟩
theorem c_betP {f b n0 s0 d0 f0 r0 : Nat} (hTab : tbl[f]? = some (DBetP b n0 s0)) (hTb : tbl[b]? = some DBet) (hTs : tbl[s0]? = some (DFs d0 f0)) (hTd : tbl[d0]? = some (DDist n0 r0)) (hTf : tbl[f0]? = some DFsi) (hTn : tbl[n0]? = some DNeigh) (hTr : tbl[r0]? = some DRow) {dd : Nat} {W : List (List Int)} {ts : List (Nat × Nat)} (hI : Iso dd W) (hW : WebOf W ts) (hl : W.length < 64) (hd : dd < 150) {v : List Nat} (hv : v.length < 1000) {x : Nat} (hx : x < W.length) :
    ∃ S', C tbl (d + 4) f [webV W.length ts, .tup (nv v), .int (x : Int)] S = some (oV (best W v x), S') ∧ Kp S S' := by
  have hf := hW.few
  have h3 : W.length * W.length ≤ 64 * 64 := Nat.mul_le_mul (by omega) (by omega)
  obtain ⟨r, S1, e1, k1, hN⟩ := c_near (d := d + 2) (S := S) hTn hW.ties (by omega) (by omega)
  obtain ⟨S2, e2, k2⟩ := c_fs (d := d) (S := S1) hTs hTd hTf hTn hTr hI hW hl hd hv
  obtain ⟨S3, e3, l3⟩ := c_bet (d := d + 2) (S := S2) hTb hW (by omega) (v := v) (hN.kp k2) hx
  exact ⟨S3, (callF_at (F := DBetP b n0 s0) hTab rfl).trans (run_ret (exs_ret (ex_ret (ev_call (evs_cons (ev_call (evs_cons rfl evs_nil) e1) (evs_cons (ev_call (evs_cons rfl (evs_cons rfl evs_nil)) e2) (evs_cons rfl evs_nil))) e3)))), k1.trans (k2.trans (Kp.of l3))⟩
def freeL (W : List (List Int)) (v : List Nat) : List Nat := (List.range W.length).filter fun x => (best W v x).isNone
theorem c_unb {f b n0 s0 d0 f0 r0 : Nat} (hTab : tbl[f]? = some (DUnb b n0 s0)) (hTb : tbl[b]? = some DBet) (hTs : tbl[s0]? = some (DFs d0 f0)) (hTd : tbl[d0]? = some (DDist n0 r0)) (hTf : tbl[f0]? = some DFsi) (hTn : tbl[n0]? = some DNeigh) (hTr : tbl[r0]? = some DRow) {dd : Nat} {W : List (List Int)} {ts : List (Nat × Nat)} (hI : Iso dd W) (hW : WebOf W ts) (hl : W.length < 64) (hd : dd < 150) {v : List Nat} (hv : v.length < 1000) :
    ∃ S', C tbl (d + 4) f [webV W.length ts, .tup (nv v)] S = some (.tup (nv (freeL W v)), S') ∧ Kp S S' := by
  have hf := hW.few
  have h3 : W.length * W.length ≤ 64 * 64 := Nat.mul_le_mul (by omega) (by omega)
  obtain ⟨r, S1, e1, k1, hN⟩ := c_near (d := d + 2) (S := S) hTn hW.ties (by omega) (by omega)
  obtain ⟨S2, e2, k2⟩ := c_fs (d := d) (S := S1) hTs hTd hTf hTn hTr hI hW hl hd hv
  have hN2 := hN.kp k2
  have i0 : ex (C tbl (d + 3)) 200 (bnth (DUnb b n0 s0).body 0) [some (webV W.length ts), some (.tup (nv v)), none, none, none] S = some (.nx, [some (webV W.length ts), some (.tup (nv v)), some (.ref r), some (.tup (nv (sumsL W v))), none], S2) :=
    ex_asg (ev_tup (vs := [.ref r, .tup (nv (sumsL W v))]) (evs_cons (ev_call (evs_cons rfl evs_nil) e1) (evs_cons (ev_call (evs_cons rfl (evs_cons rfl evs_nil)) e2) evs_nil)) (show 2 ≤ 1000000 by decide)) rfl
  obtain ⟨S3, e3, l3⟩ := lc_map (f := dTurn [4] (asg (C tbl (d + 3)) (.slot 4)) (ev (C tbl (d + 3)) (.cmp .is (.call b (.cons (.slot 2) (.cons (.slot 3) (.cons (.slot 4) .nil)))) (.k .non))) (ev (C tbl (d + 3)) (.slot 4)) [some (webV W.length ts), some (.tup (nv v)), some (.ref r), some (.tup (nv (sumsL W v))), none])
    (J := .rng 0 1 W.length) (ws := List.range W.length) (t := fun i : Nat => Val.int (0 + (i : Int))) (S := S2) (fun x => if (best W v x).isNone = true then some (Val.int (x : Int)) else none) its_rng (by rw [List.length_range]; omega) (by
      intro x hx S' l
      have hx := List.mem_range.mp hx
      obtain ⟨S4, e4, l4⟩ := c_bet (d := d + 2) (S := S') hTb hW (by omega) (v := v) (hN2.kp (Kp.of l)) hx
      have t : ev (C tbl (d + 3)) (.cmp .is (.call b (.cons (.slot 2) (.cons (.slot 3) (.cons (.slot 4) .nil)))) (.k .non)) [some (webV W.length ts), some (.tup (nv v)), some (.ref r), some (.tup (nv (sumsL W v))), some (.int (x : Int))] S' = some (.bl (best W v x).isNone, S4) := ev_cmp (ev_call (evs_cons rfl (evs_cons rfl (evs_cons rfl evs_nil))) e4) rfl is_o
      have hset : asg (C tbl (d + 3)) (.slot 4) (.int (0 + (x : Int))) (wipeE [some (webV W.length ts), some (.tup (nv v)), some (.ref r), some (.tup (nv (sumsL W v))), none] [4]) S' = some ([some (webV W.length ts), some (.tup (nv v)), some (.ref r), some (.tup (nv (sumsL W v))), some (.int (x : Int))], S') := by rw [Int.zero_add]; rfl
      by_cases q : (best W v x).isNone = true
      · rw [if_pos q]
        rw [q] at t
        exact ⟨S4, turn_t hset t rfl, l4⟩
      · rw [if_neg q]
        rw [Bool.eq_false_iff.mpr q] at t
        exact ⟨S4, turn_f hset t, l4⟩)
  rw [filterMap_if, List.length_range] at e3
  exact ⟨_, (callF_at (F := DUnb b n0 s0) hTab rfl).trans (run_ret (exs_nx i0 (exs_ret (ex_ret (ev_bi (evs_cons (ev_lc (evI_rng1 (j := (W.length : Int)) (evs_cons (ev_idx rfl rfl rfl) evs_nil) (rng_small (by omega))) (n := W.length) (Int.toNat_natCast _) e3) evs_nil) (tup_lst get_last)))))), k1.trans (k2.trans ((Kp.of l3).trans (.add _ _)))⟩
end CG

/-! CG17: shown lists of places, the last place of a row, the end of steps down. -/
namespace CG
open Rf Cm
variable {S : Store}
theorem atom_o (o : Option Nat) : Atom (oV o) := by
  cases o with
  | none => exact .non
  | some y => exact .int _
theorem os_good : ∀ l : List (Option Nat), (∀ y, some y ∈ l → y < 1000) → goodAll ((l.map oV).map atD) = true ∧ szAll ((l.map oV).map atD) ≤ 24 * l.length
  | [], _ => ⟨rfl, Nat.le_refl _⟩
  | o :: l, h => by
    obtain ⟨h1, h2⟩ := os_good l fun y hy => h y (List.mem_cons_of_mem _ hy)
    cases o with
    | none =>
      simp only [List.map_cons, goodAll, szAll, List.length_cons]
      rw [h1]
      refine ⟨rfl, ?_⟩
      have : szD (atD (oV none)) = 5 := rfl
      omega
    | some y =>
      obtain ⟨g1, g2⟩ := ints_good [(y : Int)] (by
        intro x hx
        rw [List.mem_singleton.mp hx]
        have := h y List.mem_cons_self
        omega)
      simp only [List.map_cons, List.map_nil, goodAll, szAll, List.length_cons, List.length_nil, Bool.and_true] at g1 g2 ⊢
      rw [h1, show atD (oV (some y)) = .int (y : Int) from rfl, g1]
      exact ⟨rfl, by omega⟩
theorem ok_os {l : List (Option Nat)} (h : ∀ y, some y ∈ l → y < 1000) (hl : l.length ≤ 1000) : okD (.list ((l.map oV).map atD)) = true := by
  obtain ⟨g1, g2⟩ := os_good l h
  apply okD_of
  have hz : szD (.list ((l.map oV).map atD)) ≤ 1000000 := by simp only [szD]; omega
  have hg : goodD (.list ((l.map oV).map atD)) = true := by simp only [goodD, g1]
  have hd : PySem.PyData.depth (.list ((l.map oV).map atD)) = 1 := by simp only [PySem.PyData.depth, at_lay.2]
  unfold okQ
  rw [hg, hd, decide_eq_true hz]; rfl
theorem dat_os {r : Nat} {k : Bool} {l : List (Option Nat)} (h : S[r]? = some (.lst k (l.map oV))) : Rf.dataOf S (.ref r) = some (.list ((l.map oV).map atD)) :=
  at_lst h fun x hx => by
    obtain ⟨o, _, rfl⟩ := List.mem_map.mp hx
    exact atom_o o
theorem dat_nt {l : List Nat} : Rf.dataOf S (.tup (nv l)) = some (.tuple ((zi l).map .int)) := by
  rw [nv_zi]
  exact data_tup
theorem ok_nt {l : List Nat} (h : ∀ x ∈ l, x < 1000) (hl : l.length ≤ 1000) : okD (.tuple ((zi l).map .int)) = true :=
  (ok_ints (w := zi l) (fun x hx => by
    unfold zi at hx
    obtain ⟨y, hy, rfl⟩ := List.mem_map.mp hx
    have := h y hy
    omega) (by rw [zi_len]; exact hl)).1
theorem last_nv {r x : Nat} {k : Bool} {R : List Nat} (h : S[r]? = some (.lst k (nv R))) (hu : R.getLast? = some x) : ixV (.ref r) (.int (-1)) S = some (.int (x : Int)) := by
  rw [List.getLast?_eq_getElem?] at hu
  have hl : R.length - 1 < R.length := (List.getElem?_eq_some_iff.mp hu).1
  refine ix_lst h ?_
  exact at_neg (i := 0) (by rw [nv_len, nv, List.getElem?_map, show R.length - (0 + 1) = R.length - 1 by omega, hu]; rfl) (by rw [nv_len]; omega)
theorem Down.last {W : List (List Int)} {v : List Nat} {x : Nat} {R : List Nat} (h : Down W v x R) : x < W.length → (∀ y ∈ R, y < W.length) ∧ ∃ z, R.getLast? = some z ∧ z < W.length ∧ best W v z = none := by
  induction h with
  | @stop x hb => exact fun hx => ⟨fun y hy => (by rw [List.mem_singleton.mp hy]; exact hx), x, rfl, hx, hb⟩
  | @step x y l hb hd ih =>
    intro hx
    obtain ⟨h1, z, h2, h3, h4⟩ := ih (best_some hb).1
    refine ⟨fun u hu => ?_, z, ?_, h3, h4⟩
    · rcases List.mem_cons.mp hu with rfl | hu
      · exact hx
      · exact h1 u hu
    · cases l with
      | nil => cases h2
      | cons a l => rw [List.getLast?_cons_cons]; exact h2
theorem Down.len {W : List (List Int)} {v : List Nat} {x : Nat} {R : List Nat} (h : Down W v x R) : R.length ≤ cnt W v x + 1 := by
  induction h with
  | stop hb => exact Nat.le_add_left _ _
  | @step x y l hb hd ih =>
    have := cnt_lt hb
    rw [List.length_cons]
    omega
theorem free_mid {W : List (List Int)} {v : List Nat} {x : Nat} (h : x ∈ midF W.length (fs1 W v)) : x ∈ freeL W v := by
  have hm := mem_mid.mp h
  unfold freeL
  rw [List.mem_filter, List.mem_range, best_of_least hm.2]
  exact ⟨hm.1, rfl⟩
theorem free_least {dd : Nat} {W : List (List Int)} (h : Iso dd W) (hB : Bin W) (hM : Med W) {v : List Nat} (hv : v.length = W.length) {x : Nat} (hx : x < W.length) (hb : best W v x = none) : ∀ y, y < W.length → fs1 W v x ≤ fs1 W v y :=
  local_least h hB hM hv hx fun y hy ha => best_none hb hy ha
theorem free_eq {dd : Nat} {W : List (List Int)} (h : Iso dd W) (hB : Bin W) (hM : Med W) {v : List Nat} (hv : v.length = W.length) : freeL W v = midF W.length (fs1 W v) := by
  unfold freeL midF
  refine List.filter_congr fun x hx => ?_
  have hx := List.mem_range.mp hx
  rw [Bool.eq_iff_iff, decide_eq_true_eq]
  constructor
  · intro q
    exact free_least h hB hM hv hx (Option.isNone_iff_eq_none.mp q)
  · intro q
    rw [best_of_least q]; rfl
end CG

namespace K48
open PySem PySem.Spec PyProof.Rows L2 Rf
def topS (i : Nat) : Stmt := PySem.Challenge.pw_websincubes_k48_whole_steps_down.main.body.getD i (.Pass ⟨0, 0, 0, 0⟩)
def fs : List Str := [PySem.Str.ofString "neighbours_of", PySem.Str.ofString "distance_row", PySem.Str.ofString "distances_of", PySem.Str.ofString "far_sum_in", PySem.Str.ofString "far_sums", PySem.Str.ofString "middles_of", PySem.Str.ofString "better_in", PySem.Str.ofString "better_place", PySem.Str.ofString "steps_down", PySem.Str.ofString "unbettered", PySem.Str.ofString "_law_source", PySem.Str.ofString "_law_pick", PySem.Str.ofString "_law_of", PySem.Str.ofString "_law_mixed", PySem.Str.ofString "_law_apart", PySem.Str.ofString "_law_hull_words", PySem.Str.ofString "_law_way_words", PySem.Str.ofString "_law_words", PySem.Str.ofString "_law_web", PySem.Str.ofString "_law_table", PySem.Str.ofString "_law_votes", PySem.Str.ofString "_law_far", PySem.Str.ofString "law"]
/-- neighbours_of -/
def D0 : FD := ⟨1, 5, 
  (.cons (.asg (.slot 1) (.lc (.lst .nil) (.slot 2) (.rng (.cons (.idx (.slot 0) (.k (.int 0))) .nil)) (.k (.bl true)) [2]))
  (.cons (.loop (.tup (.cons (.slot 2) (.cons (.slot 3) .nil))) (.ex (.idx (.slot 0) (.k (.int 1)))) ((.cons (.ex (.mt .append (.idx (.slot 1) (.slot 2)) (.cons (.slot 3) .nil)))
    (.cons (.ex (.mt .append (.idx (.slot 1) (.slot 3)) (.cons (.slot 2) .nil)))
    .nil))))
  (.cons (.ret (.lc (.bi .sorted (.cons (.slot 4) .nil)) (.slot 4) (.ex (.slot 1)) (.k (.bl true)) [4]))
  .nil)))⟩
def N0 : List Str := ["web", "found", "a", "b", "some"]
/-- distance_row -/
def D1 : FD := ⟨2, 8, 
  (.cons (.asg (.tup (.cons (.slot 2) (.cons (.slot 3) (.cons (.slot 4) .nil)))) (.tup (.cons (.dict1 (.slot 1) (.k (.int 0))) (.cons (.lst (.cons (.slot 1) .nil)) (.cons (.k (.int 0)) .nil)))))
  (.cons (.whl (.cmp .ne (.slot 3) (.lst .nil)) ((.cons (.asg (.tup (.cons (.slot 4) (.cons (.slot 6) .nil))) (.tup (.cons (.bin .add (.slot 4) (.k (.int 1))) (.cons (.dict [] .nil) .nil))))
    (.cons (.loop (.slot 5) (.ex (.slot 3)) ((.cons (.ex (.mt .update (.slot 6) (.cons (.dc (.slot 7) (.slot 4) (.slot 7) (.ex (.idx (.slot 0) (.slot 5))) (.cmp .notin (.slot 7) (.slot 2)) [7]) .nil)))
      .nil)))
    (.cons (.ex (.mt .update (.slot 2) (.cons (.slot 6) .nil)))
    (.cons (.asg (.slot 3) (.bi .sorted (.cons (.slot 6) .nil)))
    .nil))))))
  (.cons (.ret (.bi .tuple (.cons (.lc (.mt .get (.slot 2) (.cons (.slot 7) .nil)) (.slot 7) (.rng (.cons (.bi .len (.cons (.slot 0) .nil)) .nil)) (.k (.bl true)) [7]) .nil)))
  .nil)))⟩
def N1 : List Str := ["near", "x", "found", "level", "step", "a", "late", "b"]
/-- distances_of -/
def D2 : FD := ⟨1, 3, 
  (.cons (.asg (.slot 1) (.call 0 (.cons (.slot 0) .nil)))
  (.cons (.ret (.bi .tuple (.cons (.lc (.call 1 (.cons (.slot 1) (.cons (.slot 2) .nil))) (.slot 2) (.rng (.cons (.idx (.slot 0) (.k (.int 0))) .nil)) (.k (.bl true)) [2]) .nil)))
  .nil))⟩
def N2 : List Str := ["web", "near", "x"]
/-- far_sum_in -/
def D3 : FD := ⟨3, 5, 
  (.cons (.ret (.bi .sum (.cons (.lc (.bin .mul (.slot 3) (.slot 4)) (.tup (.cons (.slot 3) (.cons (.slot 4) .nil))) (.zip (.cons (.slot 1) (.cons (.idx (.slot 0) (.slot 2)) .nil))) (.k (.bl true)) [3, 4]) .nil)))
  .nil)⟩
def N3 : List Str := ["table", "votes", "x", "many", "far"]
/-- far_sums -/
def D4 : FD := ⟨2, 4, 
  (.cons (.asg (.slot 2) (.call 2 (.cons (.slot 0) .nil)))
  (.cons (.ret (.bi .tuple (.cons (.lc (.call 3 (.cons (.slot 2) (.cons (.slot 1) (.cons (.slot 3) .nil)))) (.slot 3) (.rng (.cons (.idx (.slot 0) (.k (.int 0))) .nil)) (.k (.bl true)) [3]) .nil)))
  .nil))⟩
def N4 : List Str := ["web", "votes", "table", "x"]
/-- middles_of -/
def D5 : FD := ⟨2, 5, 
  (.cons (.asg (.slot 2) (.call 4 (.cons (.slot 0) (.cons (.slot 1) .nil))))
  (.cons (.ret (.bi .tuple (.cons (.lc (.slot 3) (.tup (.cons (.slot 3) (.cons (.slot 4) .nil))) (.enum (.slot 2)) (.cmp .eq (.slot 4) (.bi .min (.cons (.slot 2) .nil))) [3, 4]) .nil)))
  .nil))⟩
def N5 : List Str := ["web", "votes", "sums", "x", "far"]
/-- better_in -/
def D6 : FD := ⟨3, 5, 
  (.cons (.asg (.slot 3) (.lc (.tup (.cons (.idx (.slot 1) (.slot 4)) (.cons (.slot 4) .nil))) (.slot 4) (.ex (.idx (.slot 0) (.slot 2))) (.cmp .lt (.idx (.slot 1) (.slot 4)) (.idx (.slot 1) (.slot 2))) [4]))
  (.cons (.ret (.ife (.cmp .ne (.slot 3) (.lst .nil)) (.idx (.bi .min (.cons (.slot 3) .nil)) (.k (.int 1))) (.k .non)))
  .nil))⟩
def N6 : List Str := ["near", "sums", "x", "some", "y"]
/-- better_place -/
def D7 : FD := ⟨3, 3, 
  (.cons (.ret (.call 6 (.cons (.call 0 (.cons (.slot 0) .nil)) (.cons (.call 4 (.cons (.slot 0) (.cons (.slot 1) .nil))) (.cons (.slot 2) .nil)))))
  .nil)⟩
def N7 : List Str := ["web", "votes", "x"]
/-- steps_down -/
def D8 : FD := ⟨3, 7, 
  (.cons (.asg (.tup (.cons (.slot 4) (.cons (.slot 5) (.cons (.slot 6) .nil)))) (.tup (.cons (.call 0 (.cons (.slot 0) .nil)) (.cons (.call 4 (.cons (.slot 0) (.cons (.slot 1) .nil))) (.cons (.lst (.cons (.slot 2) .nil)) .nil)))))
  (.cons (.asg (.slot 3) (.call 6 (.cons (.slot 4) (.cons (.slot 5) (.cons (.slot 2) .nil)))))
  (.cons (.whl (.cmp .isnot (.slot 3) (.k .non)) ((.cons (.ex (.mt .append (.slot 6) (.cons (.slot 3) .nil)))
    (.cons (.asg (.slot 3) (.call 6 (.cons (.slot 4) (.cons (.slot 5) (.cons (.slot 3) .nil)))))
    .nil))))
  (.cons (.ret (.bi .tuple (.cons (.slot 6) .nil)))
  .nil))))⟩
def N8 : List Str := ["web", "votes", "x", "late", "near", "sums", "found"]
/-- unbettered -/
def D9 : FD := ⟨2, 5, 
  (.cons (.asg (.tup (.cons (.slot 2) (.cons (.slot 3) .nil))) (.tup (.cons (.call 0 (.cons (.slot 0) .nil)) (.cons (.call 4 (.cons (.slot 0) (.cons (.slot 1) .nil))) .nil))))
  (.cons (.ret (.bi .tuple (.cons (.lc (.slot 4) (.slot 4) (.rng (.cons (.idx (.slot 0) (.k (.int 0))) .nil)) (.cmp .is (.call 6 (.cons (.slot 2) (.cons (.slot 3) (.cons (.slot 4) .nil)))) (.k .non)) [4]) .nil)))
  .nil))⟩
def N9 : List Str := ["web", "votes", "near", "sums", "x"]
/-- _law_source -/
def D10 : FD := ⟨1, 3, 
  (.cons (.asg (.slot 1) (.k (.int 11)))
  (.cons (.loop (.slot 2) (.ex (.slot 0)) ((.cons (.asg (.slot 1) (.bin .mod (.bi .int (.cons (.bin .add (.bin .add (.bin .mul (.slot 1) (.k (.int 69069))) (.bin .mul (.slot 2) (.k (.int 31)))) (.k (.int 5))) .nil)) (.k (.int 2147483629))))
    .nil)))
  (.cons (.ret (.dict [(.str "cells"), (.str "left"), (.str "mixed"), (.str "turn")] (.cons (.rev (.lc (.bi .abs (.cons (.slot 2) .nil)) (.slot 2) (.ex (.slot 0)) (.k (.bl true)) [2])) (.cons (.k (.int 1)) (.cons (.slot 1) (.cons (.k (.int 0)) .nil))))))
  .nil)))⟩
def N10 : List Str := ["script", "mixed", "cell"]
/-- _law_pick -/
def D11 : FD := ⟨2, 4, 
  (.cons (.whl (.and (.cmp .gt (.slot 1) (.k (.int 1))) (.and (.cmp .lt (.idx (.slot 0) (.k (.str "left"))) (.k (.int 2))) (.cmp .gt (.bi .len (.cons (.idx (.slot 0) (.k (.str "cells"))) .nil)) (.k (.int 0))))) ((.cons (.asg (.sub (.slot 0) (.k (.str "left"))) (.mt .pop (.idx (.slot 0) (.k (.str "cells"))) .nil))
    .nil)))
  (.cons (.asg (.slot 2) (.idx (.slot 0) (.k (.str "left"))))
  (.cons (.ife (.or (.cmp .lt (.slot 1) (.k (.int 2))) (.cmp .gt (.slot 2) (.k (.int 1)))) ((.cons (.asg (.sub (.slot 0) (.k (.str "left"))) (.bin .fdiv (.slot 2) (.bi .max (.cons (.k (.int 1)) (.cons (.slot 1) .nil)))))
    (.cons (.ret (.bin .mod (.bi .int (.cons (.slot 2) .nil)) (.bi .max (.cons (.k (.int 1)) (.cons (.slot 1) .nil)))))
    .nil))) (.nil))
  (.cons (.asg (.sub (.slot 0) (.k (.str "turn"))) (.bin .add (.idx (.slot 0) (.k (.str "turn"))) (.k (.int 1))))
  (.cons (.asg (.slot 3) (.bin .mod (.bi .int (.cons (.bin .add (.idx (.slot 0) (.k (.str "mixed"))) (.bin .mul (.idx (.slot 0) (.k (.str "turn"))) (.k (.int 104729)))) .nil)) (.k (.int 998244353))))
  (.cons (.asg (.slot 3) (.bin .mod (.bi .int (.cons (.bin .add (.bin .mul (.slot 3) (.slot 3)) (.bin .mul (.idx (.slot 0) (.k (.str "turn"))) (.k (.int 17)))) .nil)) (.k (.int 2147483647))))
  (.cons (.asg (.sub (.slot 0) (.k (.str "mixed"))) (.slot 3))
  (.cons (.ret (.bin .mod (.bi .int (.cons (.bin .fdiv (.slot 3) (.k (.int 16))) .nil)) (.slot 1)))
  .nil))))))))⟩
def N11 : List Str := ["source", "many", "left", "mixed"]
/-- _law_of -/
def D12 : FD := ⟨2, 2, 
  (.cons (.ret (.idx (.slot 1) (.call 11 (.cons (.slot 0) (.cons (.bi .len (.cons (.slot 1) .nil)) .nil)))))
  .nil)⟩
def N12 : List Str := ["source", "some"]
/-- _law_mixed -/
def D13 : FD := ⟨2, 4, 
  (.cons (.asg (.slot 2) (.bi .list (.cons (.slot 1) .nil)))
  (.cons (.ret (.lc (.mt .pop (.slot 2) (.cons (.call 11 (.cons (.slot 0) (.cons (.bi .len (.cons (.slot 2) .nil)) .nil))) .nil)) (.slot 3) (.rng (.cons (.bi .len (.cons (.slot 2) .nil)) .nil)) (.k (.bl true)) [3]))
  .nil))⟩
def N13 : List Str := ["source", "things", "rest", "lap"]
/-- _law_apart -/
def D14 : FD := ⟨2, 4, 
  (.cons (.ret (.bi .len (.cons (.lc (.k (.int 1)) (.tup (.cons (.slot 2) (.cons (.slot 3) .nil))) (.zip (.cons (.slot 0) (.cons (.slot 1) .nil))) (.cmp .ne (.slot 2) (.slot 3)) [2, 3]) .nil)))
  .nil)⟩
def N14 : List Str := ["one", "other", "x", "y"]
/-- _law_hull_words -/
def D15 : FD := ⟨2, 5, 
  (.cons (.asg (.slot 2) (.lc (.slot 3) (.slot 3) (.rng (.cons (.bi .len (.cons (.idx (.slot 1) (.k (.int 0))) .nil)) .nil)) (.cmp .eq (.bi .len (.cons (.bi .dict (.cons (.lc (.tup (.cons (.idx (.slot 4) (.slot 3)) (.cons (.k (.int 0)) .nil))) (.slot 4) (.ex (.slot 1)) (.k (.bl true)) [4]) .nil)) .nil)) (.k (.int 1))) [3]))
  (.cons (.ret (.lc (.slot 4) (.slot 4) (.ex (.slot 0)) (.cmp .eq (.lc (.slot 3) (.slot 3) (.ex (.slot 2)) (.cmp .ne (.idx (.slot 4) (.slot 3)) (.idx (.idx (.slot 1) (.k (.int 0))) (.slot 3))) [3]) (.lst .nil)) [4]))
  .nil))⟩
def N15 : List Str := ["words", "some", "alike", "i", "word"]
/-- _law_way_words -/
def D16 : FD := ⟨3, 6, 
  (.cons (.asg (.slot 3) (.lst (.cons (.slot 1) .nil)))
  (.cons (.whl (.cmp .ne (.idx (.slot 3) (.neg (.k (.int 1)))) (.slot 2)) ((.cons (.asg (.slot 4) (.lc (.slot 5) (.slot 5) (.ex (.slot 0)) (.cmp .eq (.call 14 (.cons (.slot 5) (.cons (.idx (.slot 3) (.neg (.k (.int 1)))) .nil))) (.k (.int 1))) [5]))
    (.cons (.ex (.mt .append (.slot 3) (.cons (.idx (.lc (.slot 5) (.slot 5) (.ex (.slot 4)) (.cmp .lt (.call 14 (.cons (.slot 5) (.cons (.slot 2) .nil))) (.call 14 (.cons (.idx (.slot 3) (.neg (.k (.int 1)))) (.cons (.slot 2) .nil)))) [5]) (.k (.int 0))) .nil)))
    .nil))))
  (.cons (.ret (.slot 3))
  .nil)))⟩
def N16 : List Str := ["words", "one", "other", "row", "near", "word"]
/-- _law_words -/
def D17 : FD := ⟨3, 9, 
  (.cons (.asg (.slot 3) (.lst (.cons (.tup .nil) .nil)))
  (.cons (.ife (.and (.not (.slot 2)) (.cmp .eq (.call 11 (.cons (.slot 0) (.cons (.k (.int 2)) .nil))) (.k (.int 0)))) ((.cons (.asg (.slot 3) (.lst (.cons (.tup (.cons (.k (.int 0)) (.cons (.k (.int 0)) (.cons (.k (.int 0)) .nil)))) (.cons (.tup (.cons (.k (.int 1)) (.cons (.k (.int 0)) (.cons (.k (.int 0)) .nil)))) (.cons (.tup (.cons (.k (.int 1)) (.cons (.k (.int 1)) (.cons (.k (.int 0)) .nil)))) (.cons (.tup (.cons (.k (.int 1)) (.cons (.k (.int 1)) (.cons (.k (.int 1)) .nil)))) (.cons (.tup (.cons (.k (.int 0)) (.cons (.k (.int 1)) (.cons (.k (.int 1)) .nil)))) (.cons (.tup (.cons (.k (.int 0)) (.cons (.k (.int 0)) (.cons (.k (.int 1)) .nil)))) .nil))))))))
    .nil)) (.nil))
  (.cons (.loop (.slot 4) (.rng (.cons (.call 11 (.cons (.slot 0) (.cons (.k (.int 7)) .nil))) .nil)) ((.cons (.asg (.slot 5) (.lc (.call 12 (.cons (.slot 0) (.cons (.slot 3) .nil))) (.slot 7) (.rng (.cons (.bin .add (.k (.int 1)) (.call 11 (.cons (.slot 0) (.cons (.k (.int 3)) .nil)))) .nil)) (.k (.bl true)) [7]))
    (.cons (.asg (.slot 6) (.call 15 (.cons (.slot 3) (.cons (.slot 5) .nil))))
    (.cons (.ife (.not (.slot 2)) ((.cons (.asg (.slot 6) (.call 16 (.cons (.slot 3) (.cons (.idx (.slot 5) (.k (.int 0))) (.cons (.idx (.slot 5) (.neg (.k (.int 1)))) .nil)))))
      .nil)) (.nil))
    (.cons (.ife (.cmp .le (.bin .add (.bi .len (.cons (.slot 3) .nil)) (.bi .len (.cons (.slot 6) .nil))) (.slot 1)) ((.cons (.asg (.slot 3) (.bin .add (.lc (.bin .add (.slot 8) (.tup (.cons (.k (.int 0)) .nil))) (.slot 8) (.ex (.slot 3)) (.k (.bl true)) [8]) (.lc (.bin .add (.slot 8) (.tup (.cons (.k (.int 1)) .nil))) (.slot 8) (.ex (.slot 6)) (.k (.bl true)) [8])))
      .nil)) (.nil))
    .nil))))))
  (.cons (.ret (.call 13 (.cons (.slot 0) (.cons (.slot 3) .nil))))
  .nil))))⟩
def N17 : List Str := ["source", "most", "is_median", "words", "lap", "some", "part", "k", "word"]
/-- _law_web -/
def D18 : FD := ⟨1, 4, 
  (.cons (.asg (.slot 1) (.lst .nil))
  (.cons (.loop (.slot 2) (.rng (.cons (.bi .len (.cons (.slot 0) .nil)) .nil)) ((.cons (.asg (.slot 1) (.bin .add (.slot 1) (.lc (.tup (.cons (.slot 3) (.cons (.slot 2) .nil))) (.slot 3) (.rng (.cons (.slot 2) .nil)) (.cmp .eq (.call 14 (.cons (.idx (.slot 0) (.slot 3)) (.cons (.idx (.slot 0) (.slot 2)) .nil))) (.k (.int 1))) [3])))
    .nil)))
  (.cons (.ret (.tup (.cons (.bi .len (.cons (.slot 0) .nil)) (.cons (.bi .tuple (.cons (.bi .sorted (.cons (.slot 1) .nil)) .nil)) .nil))))
  .nil)))⟩
def N18 : List Str := ["words", "ties", "b", "a"]
/-- _law_table -/
def D19 : FD := ⟨1, 3, 
  (.cons (.ret (.lc (.lc (.call 14 (.cons (.slot 1) (.cons (.slot 2) .nil))) (.slot 2) (.ex (.slot 0)) (.k (.bl true)) [2]) (.slot 1) (.ex (.slot 0)) (.k (.bl true)) [1]))
  .nil)⟩
def N19 : List Str := ["words", "one", "other"]
/-- _law_votes -/
def D20 : FD := ⟨2, 5, 
  (.cons (.asg (.slot 2) (.call 11 (.cons (.slot 0) (.cons (.k (.int 3)) .nil))))
  (.cons (.asg (.slot 3) (.lc (.call 11 (.cons (.slot 0) (.cons (.idx (.lst (.cons (.k (.int 2)) (.cons (.k (.int 4)) (.cons (.k (.int 30)) .nil)))) (.slot 2)) .nil))) (.slot 4) (.rng (.cons (.slot 1) .nil)) (.k (.bl true)) [4]))
  (.cons (.asg (.slot 4) (.call 11 (.cons (.slot 0) (.cons (.slot 1) .nil))))
  (.cons (.asg (.sub (.slot 3) (.slot 4)) (.bin .add (.idx (.slot 3) (.slot 4)) (.bi .int (.cons (.cmp .eq (.bi .max (.cons (.slot 3) .nil)) (.k (.int 0))) .nil))))
  (.cons (.ret (.bi .tuple (.cons (.slot 3) .nil)))
  .nil)))))⟩
def N20 : List Str := ["source", "n", "way", "votes", "x"]
/-- _law_far -/
def D21 : FD := ⟨2, 5, 
  (.cons (.ret (.lc (.bi .sum (.cons (.lc (.bin .mul (.slot 3) (.slot 4)) (.tup (.cons (.slot 3) (.cons (.slot 4) .nil))) (.zip (.cons (.slot 1) (.cons (.slot 2) .nil))) (.k (.bl true)) [3, 4]) .nil)) (.slot 2) (.ex (.slot 0)) (.k (.bl true)) [2]))
  .nil)⟩
def N21 : List Str := ["table", "votes", "row", "many", "far"]
/-- law -/
def D22 : FD := ⟨1, 18, 
  (.cons (.asg (.slot 1) (.call 10 (.cons (.slot 0) .nil)))
  (.cons (.loop (.slot 2) (.rng (.cons (.k (.int 5)) .nil)) ((.cons (.asg (.slot 4) (.cmp .gt (.call 11 (.cons (.slot 1) (.cons (.k (.int 3)) .nil))) (.k (.int 0))))
    (.cons (.asg (.slot 5) (.call 17 (.cons (.slot 1) (.cons (.idx (.lst (.cons (.k (.int 4)) (.cons (.k (.int 8)) (.cons (.k (.int 12)) (.cons (.k (.int 16)) (.cons (.k (.int 16)) .nil)))))) (.slot 2)) (.cons (.slot 4) .nil)))))
    (.cons (.asg (.tup (.cons (.slot 8) (.cons (.slot 9) .nil))) (.tup (.cons (.call 18 (.cons (.slot 5) .nil)) (.cons (.call 19 (.cons (.slot 5) .nil)) .nil))))
    (.cons (.asg (.tup (.cons (.slot 10) (.cons (.slot 11) (.cons (.slot 12) .nil)))) (.tup (.cons (.idx (.slot 8) (.k (.int 0))) (.cons (.bi .repr (.cons (.slot 8) .nil)) (.cons (.call 20 (.cons (.slot 1) (.cons (.idx (.slot 8) (.k (.int 0))) .nil))) .nil)))))
    (.cons (.asg (.tup (.cons (.slot 13) (.cons (.slot 14) .nil))) (.tup (.cons (.call 21 (.cons (.slot 9) (.cons (.slot 12) .nil))) (.cons (.lst .nil) .nil))))
    (.cons (.ife (.cmp .ne (.bi .list (.cons (.call 4 (.cons (.slot 8) (.cons (.slot 12) .nil))) .nil)) (.slot 13)) ((.cons (.ret (.k (.bl false)))
      .nil)) (.nil))
    (.cons (.loop (.slot 6) (.rng (.cons (.slot 10) .nil)) ((.cons (.asg (.slot 15) (.lc (.tup (.cons (.idx (.slot 13) (.slot 17)) (.cons (.slot 17) .nil))) (.slot 17) (.rng (.cons (.slot 10) .nil)) (.and (.cmp .eq (.idx (.idx (.slot 9) (.slot 6)) (.slot 17)) (.k (.int 1))) (.cmp .lt (.idx (.slot 13) (.slot 17)) (.idx (.slot 13) (.slot 6)))) [17]))
      (.cons (.ex (.mt .append (.slot 14) (.cons (.ife (.cmp .ne (.slot 15) (.lst .nil)) (.idx (.bi .min (.cons (.slot 15) .nil)) (.k (.int 1))) (.k .non)) .nil)))
      .nil))))
    (.cons (.ife (.cmp .ne (.bi .repr (.cons (.lc (.call 7 (.cons (.slot 8) (.cons (.slot 12) (.cons (.slot 6) .nil)))) (.slot 6) (.rng (.cons (.slot 10) .nil)) (.k (.bl true)) [6]) .nil)) (.bi .repr (.cons (.slot 14) .nil))) ((.cons (.ret (.k (.bl false)))
      .nil)) (.nil))
    (.cons (.asg (.slot 7) (.lc (.slot 6) (.slot 6) (.rng (.cons (.slot 10) .nil)) (.cmp .is (.idx (.slot 14) (.slot 6)) (.k .non)) [6]))
    (.cons (.ife (.cmp .ne (.bi .repr (.cons (.call 9 (.cons (.slot 8) (.cons (.slot 12) .nil))) .nil)) (.bi .repr (.cons (.bi .tuple (.cons (.slot 7) .nil)) .nil))) ((.cons (.ret (.k (.bl false)))
      .nil)) (.nil))
    (.cons (.ife (.and (.slot 4) (.cmp .ne (.bi .tuple (.cons (.slot 7) .nil)) (.call 5 (.cons (.slot 8) (.cons (.slot 12) .nil))))) ((.cons (.ret (.k (.bl false)))
      .nil)) (.nil))
    (.cons (.ife (.cmp .ne (.lc (.slot 6) (.slot 6) (.ex (.call 5 (.cons (.slot 8) (.cons (.slot 12) .nil)))) (.cmp .notin (.slot 6) (.slot 7)) [6]) (.lst .nil)) ((.cons (.ret (.k (.bl false)))
      .nil)) (.nil))
    (.cons (.loop (.slot 6) (.rng (.cons (.slot 10) .nil)) ((.cons (.asg (.slot 16) (.lst (.cons (.slot 6) .nil)))
      (.cons (.whl (.cmp .isnot (.idx (.slot 14) (.idx (.slot 16) (.neg (.k (.int 1))))) (.k .non)) ((.cons (.ex (.mt .append (.slot 16) (.cons (.idx (.slot 14) (.idx (.slot 16) (.neg (.k (.int 1))))) .nil)))
        .nil)))
      (.cons (.ife (.or (.cmp .ne (.bi .repr (.cons (.call 8 (.cons (.slot 8) (.cons (.slot 12) (.cons (.slot 6) .nil)))) .nil)) (.bi .repr (.cons (.bi .tuple (.cons (.slot 16) .nil)) .nil))) (.and (.slot 4) (.cmp .ne (.idx (.slot 13) (.idx (.slot 16) (.neg (.k (.int 1))))) (.bi .min (.cons (.slot 13) .nil))))) ((.cons (.ret (.k (.bl false)))
        .nil)) (.nil))
      .nil)))))
    (.cons (.ife (.cmp .ne (.bi .repr (.cons (.slot 8) .nil)) (.slot 11)) ((.cons (.ret (.k (.bl false)))
      .nil)) (.nil))
    .nil))))))))))))))))
  (.cons (.asg (.slot 3) (.tup (.cons (.k (.int 6)) (.cons (.tup (.cons (.tup (.cons (.k (.int 0)) (.cons (.k (.int 1)) .nil))) (.cons (.tup (.cons (.k (.int 0)) (.cons (.k (.int 5)) .nil))) (.cons (.tup (.cons (.k (.int 1)) (.cons (.k (.int 2)) .nil))) (.cons (.tup (.cons (.k (.int 2)) (.cons (.k (.int 3)) .nil))) (.cons (.tup (.cons (.k (.int 3)) (.cons (.k (.int 4)) .nil))) (.cons (.tup (.cons (.k (.int 4)) (.cons (.k (.int 5)) .nil))) .nil))))))) .nil))))
  (.cons (.ret (.and (.cmp .eq (.call 9 (.cons (.slot 3) (.cons (.tup (.cons (.k (.int 3)) (.cons (.k (.int 0)) (.cons (.k (.int 2)) (.cons (.k (.int 1)) (.cons (.k (.int 2)) (.cons (.k (.int 1)) .nil))))))) .nil))) (.tup (.cons (.k (.int 0)) (.cons (.k (.int 2)) (.cons (.k (.int 4)) .nil))))) (.cmp .eq (.call 5 (.cons (.slot 3) (.cons (.tup (.cons (.k (.int 3)) (.cons (.k (.int 0)) (.cons (.k (.int 2)) (.cons (.k (.int 1)) (.cons (.k (.int 2)) (.cons (.k (.int 1)) .nil))))))) .nil))) (.tup (.cons (.k (.int 0)) (.cons (.k (.int 4)) .nil))))))
  .nil))))⟩
def N22 : List Str := ["script", "source", "lap", "ring", "median", "words", "x", "free", "web", "table", "n", "kept", "votes", "far", "better", "some", "row", "y"]
def tbl : List FD := [D0, D1, D2, D3, D4, D5, D6, D7, D8, D9, D10, D11, D12, D13, D14, D15, D16, D17, D18, D19, D20, D21, D22]
theorem ck0 : ckB ⟨N0, defScope (topS 1), fun _ => true, fs⟩ D0.body (defBody (topS 1)) = true := by decide +kernel
theorem sc0 : FnScope N0 ["web"] (defScope (topS 1)) := ⟨rfl, rfl, rfl, by decide +kernel, rfl, by decide +kernel, by decide +kernel⟩
theorem ck1 : ckB ⟨N1, defScope (topS 2), fun _ => true, fs⟩ D1.body (defBody (topS 2)) = true := by decide +kernel
theorem sc1 : FnScope N1 ["near", "x"] (defScope (topS 2)) := ⟨rfl, rfl, rfl, by decide +kernel, rfl, by decide +kernel, by decide +kernel⟩
theorem ck2 : ckB ⟨N2, defScope (topS 3), fun _ => true, fs⟩ D2.body (defBody (topS 3)) = true := by decide +kernel
theorem sc2 : FnScope N2 ["web"] (defScope (topS 3)) := ⟨rfl, rfl, rfl, by decide +kernel, rfl, by decide +kernel, by decide +kernel⟩
theorem ck3 : ckB ⟨N3, defScope (topS 5), fun _ => true, fs⟩ D3.body (defBody (topS 5)) = true := by decide +kernel
theorem sc3 : FnScope N3 ["table", "votes", "x"] (defScope (topS 5)) := ⟨rfl, rfl, rfl, by decide +kernel, rfl, by decide +kernel, by decide +kernel⟩
theorem ck4 : ckB ⟨N4, defScope (topS 6), fun _ => true, fs⟩ D4.body (defBody (topS 6)) = true := by decide +kernel
theorem sc4 : FnScope N4 ["web", "votes"] (defScope (topS 6)) := ⟨rfl, rfl, rfl, by decide +kernel, rfl, by decide +kernel, by decide +kernel⟩
theorem ck5 : ckB ⟨N5, defScope (topS 7), fun _ => true, fs⟩ D5.body (defBody (topS 7)) = true := by decide +kernel
theorem sc5 : FnScope N5 ["web", "votes"] (defScope (topS 7)) := ⟨rfl, rfl, rfl, by decide +kernel, rfl, by decide +kernel, by decide +kernel⟩
theorem ck6 : ckB ⟨N6, defScope (topS 9), fun _ => true, fs⟩ D6.body (defBody (topS 9)) = true := by decide +kernel
theorem sc6 : FnScope N6 ["near", "sums", "x"] (defScope (topS 9)) := ⟨rfl, rfl, rfl, by decide +kernel, rfl, by decide +kernel, by decide +kernel⟩
theorem ck7 : ckB ⟨N7, defScope (topS 10), fun _ => true, fs⟩ D7.body (defBody (topS 10)) = true := by decide +kernel
theorem sc7 : FnScope N7 ["web", "votes", "x"] (defScope (topS 10)) := ⟨rfl, rfl, rfl, by decide +kernel, rfl, by decide +kernel, by decide +kernel⟩
theorem ck8 : ckB ⟨N8, defScope (topS 11), fun _ => true, fs⟩ D8.body (defBody (topS 11)) = true := by decide +kernel
theorem sc8 : FnScope N8 ["web", "votes", "x"] (defScope (topS 11)) := ⟨rfl, rfl, rfl, by decide +kernel, rfl, by decide +kernel, by decide +kernel⟩
theorem ck9 : ckB ⟨N9, defScope (topS 12), fun _ => true, fs⟩ D9.body (defBody (topS 12)) = true := by decide +kernel
theorem sc9 : FnScope N9 ["web", "votes"] (defScope (topS 12)) := ⟨rfl, rfl, rfl, by decide +kernel, rfl, by decide +kernel, by decide +kernel⟩
theorem ck10 : ckB ⟨N10, defScope (topS 14), fun _ => true, fs⟩ D10.body (defBody (topS 14)) = true := by decide +kernel
theorem sc10 : FnScope N10 ["script"] (defScope (topS 14)) := ⟨rfl, rfl, rfl, by decide +kernel, rfl, by decide +kernel, by decide +kernel⟩
theorem ck11 : ckB ⟨N11, defScope (topS 15), fun _ => true, fs⟩ D11.body (defBody (topS 15)) = true := by decide +kernel
theorem sc11 : FnScope N11 ["source", "many"] (defScope (topS 15)) := ⟨rfl, rfl, rfl, by decide +kernel, rfl, by decide +kernel, by decide +kernel⟩
theorem ck12 : ckB ⟨N12, defScope (topS 16), fun _ => true, fs⟩ D12.body (defBody (topS 16)) = true := by decide +kernel
theorem sc12 : FnScope N12 ["source", "some"] (defScope (topS 16)) := ⟨rfl, rfl, rfl, by decide +kernel, rfl, by decide +kernel, by decide +kernel⟩
theorem ck13 : ckB ⟨N13, defScope (topS 17), fun _ => true, fs⟩ D13.body (defBody (topS 17)) = true := by decide +kernel
theorem sc13 : FnScope N13 ["source", "things"] (defScope (topS 17)) := ⟨rfl, rfl, rfl, by decide +kernel, rfl, by decide +kernel, by decide +kernel⟩
theorem ck14 : ckB ⟨N14, defScope (topS 18), fun _ => true, fs⟩ D14.body (defBody (topS 18)) = true := by decide +kernel
theorem sc14 : FnScope N14 ["one", "other"] (defScope (topS 18)) := ⟨rfl, rfl, rfl, by decide +kernel, rfl, by decide +kernel, by decide +kernel⟩
theorem ck15 : ckB ⟨N15, defScope (topS 19), fun _ => true, fs⟩ D15.body (defBody (topS 19)) = true := by decide +kernel
theorem sc15 : FnScope N15 ["words", "some"] (defScope (topS 19)) := ⟨rfl, rfl, rfl, by decide +kernel, rfl, by decide +kernel, by decide +kernel⟩
theorem ck16 : ckB ⟨N16, defScope (topS 20), fun _ => true, fs⟩ D16.body (defBody (topS 20)) = true := by decide +kernel
theorem sc16 : FnScope N16 ["words", "one", "other"] (defScope (topS 20)) := ⟨rfl, rfl, rfl, by decide +kernel, rfl, by decide +kernel, by decide +kernel⟩
theorem ck17 : ckB ⟨N17, defScope (topS 21), fun _ => true, fs⟩ D17.body (defBody (topS 21)) = true := by decide +kernel
theorem sc17 : FnScope N17 ["source", "most", "is_median"] (defScope (topS 21)) := ⟨rfl, rfl, rfl, by decide +kernel, rfl, by decide +kernel, by decide +kernel⟩
theorem ck18 : ckB ⟨N18, defScope (topS 22), fun _ => true, fs⟩ D18.body (defBody (topS 22)) = true := by decide +kernel
theorem sc18 : FnScope N18 ["words"] (defScope (topS 22)) := ⟨rfl, rfl, rfl, by decide +kernel, rfl, by decide +kernel, by decide +kernel⟩
theorem ck19 : ckB ⟨N19, defScope (topS 23), fun _ => true, fs⟩ D19.body (defBody (topS 23)) = true := by decide +kernel
theorem sc19 : FnScope N19 ["words"] (defScope (topS 23)) := ⟨rfl, rfl, rfl, by decide +kernel, rfl, by decide +kernel, by decide +kernel⟩
theorem ck20 : ckB ⟨N20, defScope (topS 24), fun _ => true, fs⟩ D20.body (defBody (topS 24)) = true := by decide +kernel
theorem sc20 : FnScope N20 ["source", "n"] (defScope (topS 24)) := ⟨rfl, rfl, rfl, by decide +kernel, rfl, by decide +kernel, by decide +kernel⟩
theorem ck21 : ckB ⟨N21, defScope (topS 25), fun _ => true, fs⟩ D21.body (defBody (topS 25)) = true := by decide +kernel
theorem sc21 : FnScope N21 ["table", "votes"] (defScope (topS 25)) := ⟨rfl, rfl, rfl, by decide +kernel, rfl, by decide +kernel, by decide +kernel⟩
theorem ck22 : ckB ⟨N22, defScope (topS 26), fun _ => true, fs⟩ D22.body (defBody (topS 26)) = true := by decide +kernel
theorem sc22 : FnScope N22 ["script"] (defScope (topS 26)) := ⟨rfl, rfl, rfl, by decide +kernel, rfl, by decide +kernel, by decide +kernel⟩
section
variable {K : PySem.W.Frag} {mg : Str → Option Value} {h : Heap}
theorem fact0 (X : K.In h) (G : h.Ns mainGlobals mg) {f : Addr} {od an : Option Addr} {sl : Array (Option Value)} {oc kV dc pm cd ct : Value}
    (a : PySem.W.nsIn K mainGlobals "neighbours_of" = some (some (.ref f))) (l : K.lookup f = some ⟨oc, od, .func (PySem.W.fnOf "neighbours_of" "neighbours_of" (defArgs (topS 1)) (defBody (topS 1)) (defScope (topS 1)) .none kV dc pm an cd ct), sl⟩) (c : PySem.W.codeIn K cd "neighbours_of" = true) (k : PySem.W.keepIn K (.ref f) = true) :
    Fact K mg fs D0 "neighbours_of" :=
  ⟨f, oc, od, _, _, _, _, _, _, kV, dc, pm, cd, ct, an, sl, N0, ["web"], PySem.W.mg_of X G a, k, l, c, sc0, .all fun us hl => (match us, hl with | [_], _ => rfl), rfl, rfl, ck0⟩
theorem fact1 (X : K.In h) (G : h.Ns mainGlobals mg) {f : Addr} {od an : Option Addr} {sl : Array (Option Value)} {oc kV dc pm cd ct : Value}
    (a : PySem.W.nsIn K mainGlobals "distance_row" = some (some (.ref f))) (l : K.lookup f = some ⟨oc, od, .func (PySem.W.fnOf "distance_row" "distance_row" (defArgs (topS 2)) (defBody (topS 2)) (defScope (topS 2)) .none kV dc pm an cd ct), sl⟩) (c : PySem.W.codeIn K cd "distance_row" = true) (k : PySem.W.keepIn K (.ref f) = true) :
    Fact K mg fs D1 "distance_row" :=
  ⟨f, oc, od, _, _, _, _, _, _, kV, dc, pm, cd, ct, an, sl, N1, ["near", "x"], PySem.W.mg_of X G a, k, l, c, sc1, .all fun us hl => (match us, hl with | [_, _], _ => rfl), rfl, rfl, ck1⟩
theorem fact2 (X : K.In h) (G : h.Ns mainGlobals mg) {f : Addr} {od an : Option Addr} {sl : Array (Option Value)} {oc kV dc pm cd ct : Value}
    (a : PySem.W.nsIn K mainGlobals "distances_of" = some (some (.ref f))) (l : K.lookup f = some ⟨oc, od, .func (PySem.W.fnOf "distances_of" "distances_of" (defArgs (topS 3)) (defBody (topS 3)) (defScope (topS 3)) .none kV dc pm an cd ct), sl⟩) (c : PySem.W.codeIn K cd "distances_of" = true) (k : PySem.W.keepIn K (.ref f) = true) :
    Fact K mg fs D2 "distances_of" :=
  ⟨f, oc, od, _, _, _, _, _, _, kV, dc, pm, cd, ct, an, sl, N2, ["web"], PySem.W.mg_of X G a, k, l, c, sc2, .all fun us hl => (match us, hl with | [_], _ => rfl), rfl, rfl, ck2⟩
theorem fact3 (X : K.In h) (G : h.Ns mainGlobals mg) {f : Addr} {od an : Option Addr} {sl : Array (Option Value)} {oc kV dc pm cd ct : Value}
    (a : PySem.W.nsIn K mainGlobals "far_sum_in" = some (some (.ref f))) (l : K.lookup f = some ⟨oc, od, .func (PySem.W.fnOf "far_sum_in" "far_sum_in" (defArgs (topS 5)) (defBody (topS 5)) (defScope (topS 5)) .none kV dc pm an cd ct), sl⟩) (c : PySem.W.codeIn K cd "far_sum_in" = true) (k : PySem.W.keepIn K (.ref f) = true) :
    Fact K mg fs D3 "far_sum_in" :=
  ⟨f, oc, od, _, _, _, _, _, _, kV, dc, pm, cd, ct, an, sl, N3, ["table", "votes", "x"], PySem.W.mg_of X G a, k, l, c, sc3, .all fun us hl => (match us, hl with | [_, _, _], _ => rfl), rfl, rfl, ck3⟩
theorem fact4 (X : K.In h) (G : h.Ns mainGlobals mg) {f : Addr} {od an : Option Addr} {sl : Array (Option Value)} {oc kV dc pm cd ct : Value}
    (a : PySem.W.nsIn K mainGlobals "far_sums" = some (some (.ref f))) (l : K.lookup f = some ⟨oc, od, .func (PySem.W.fnOf "far_sums" "far_sums" (defArgs (topS 6)) (defBody (topS 6)) (defScope (topS 6)) .none kV dc pm an cd ct), sl⟩) (c : PySem.W.codeIn K cd "far_sums" = true) (k : PySem.W.keepIn K (.ref f) = true) :
    Fact K mg fs D4 "far_sums" :=
  ⟨f, oc, od, _, _, _, _, _, _, kV, dc, pm, cd, ct, an, sl, N4, ["web", "votes"], PySem.W.mg_of X G a, k, l, c, sc4, .all fun us hl => (match us, hl with | [_, _], _ => rfl), rfl, rfl, ck4⟩
theorem fact5 (X : K.In h) (G : h.Ns mainGlobals mg) {f : Addr} {od an : Option Addr} {sl : Array (Option Value)} {oc kV dc pm cd ct : Value}
    (a : PySem.W.nsIn K mainGlobals "middles_of" = some (some (.ref f))) (l : K.lookup f = some ⟨oc, od, .func (PySem.W.fnOf "middles_of" "middles_of" (defArgs (topS 7)) (defBody (topS 7)) (defScope (topS 7)) .none kV dc pm an cd ct), sl⟩) (c : PySem.W.codeIn K cd "middles_of" = true) (k : PySem.W.keepIn K (.ref f) = true) :
    Fact K mg fs D5 "middles_of" :=
  ⟨f, oc, od, _, _, _, _, _, _, kV, dc, pm, cd, ct, an, sl, N5, ["web", "votes"], PySem.W.mg_of X G a, k, l, c, sc5, .all fun us hl => (match us, hl with | [_, _], _ => rfl), rfl, rfl, ck5⟩
theorem fact6 (X : K.In h) (G : h.Ns mainGlobals mg) {f : Addr} {od an : Option Addr} {sl : Array (Option Value)} {oc kV dc pm cd ct : Value}
    (a : PySem.W.nsIn K mainGlobals "better_in" = some (some (.ref f))) (l : K.lookup f = some ⟨oc, od, .func (PySem.W.fnOf "better_in" "better_in" (defArgs (topS 9)) (defBody (topS 9)) (defScope (topS 9)) .none kV dc pm an cd ct), sl⟩) (c : PySem.W.codeIn K cd "better_in" = true) (k : PySem.W.keepIn K (.ref f) = true) :
    Fact K mg fs D6 "better_in" :=
  ⟨f, oc, od, _, _, _, _, _, _, kV, dc, pm, cd, ct, an, sl, N6, ["near", "sums", "x"], PySem.W.mg_of X G a, k, l, c, sc6, .all fun us hl => (match us, hl with | [_, _, _], _ => rfl), rfl, rfl, ck6⟩
theorem fact7 (X : K.In h) (G : h.Ns mainGlobals mg) {f : Addr} {od an : Option Addr} {sl : Array (Option Value)} {oc kV dc pm cd ct : Value}
    (a : PySem.W.nsIn K mainGlobals "better_place" = some (some (.ref f))) (l : K.lookup f = some ⟨oc, od, .func (PySem.W.fnOf "better_place" "better_place" (defArgs (topS 10)) (defBody (topS 10)) (defScope (topS 10)) .none kV dc pm an cd ct), sl⟩) (c : PySem.W.codeIn K cd "better_place" = true) (k : PySem.W.keepIn K (.ref f) = true) :
    Fact K mg fs D7 "better_place" :=
  ⟨f, oc, od, _, _, _, _, _, _, kV, dc, pm, cd, ct, an, sl, N7, ["web", "votes", "x"], PySem.W.mg_of X G a, k, l, c, sc7, .all fun us hl => (match us, hl with | [_, _, _], _ => rfl), rfl, rfl, ck7⟩
theorem fact8 (X : K.In h) (G : h.Ns mainGlobals mg) {f : Addr} {od an : Option Addr} {sl : Array (Option Value)} {oc kV dc pm cd ct : Value}
    (a : PySem.W.nsIn K mainGlobals "steps_down" = some (some (.ref f))) (l : K.lookup f = some ⟨oc, od, .func (PySem.W.fnOf "steps_down" "steps_down" (defArgs (topS 11)) (defBody (topS 11)) (defScope (topS 11)) .none kV dc pm an cd ct), sl⟩) (c : PySem.W.codeIn K cd "steps_down" = true) (k : PySem.W.keepIn K (.ref f) = true) :
    Fact K mg fs D8 "steps_down" :=
  ⟨f, oc, od, _, _, _, _, _, _, kV, dc, pm, cd, ct, an, sl, N8, ["web", "votes", "x"], PySem.W.mg_of X G a, k, l, c, sc8, .all fun us hl => (match us, hl with | [_, _, _], _ => rfl), rfl, rfl, ck8⟩
theorem fact9 (X : K.In h) (G : h.Ns mainGlobals mg) {f : Addr} {od an : Option Addr} {sl : Array (Option Value)} {oc kV dc pm cd ct : Value}
    (a : PySem.W.nsIn K mainGlobals "unbettered" = some (some (.ref f))) (l : K.lookup f = some ⟨oc, od, .func (PySem.W.fnOf "unbettered" "unbettered" (defArgs (topS 12)) (defBody (topS 12)) (defScope (topS 12)) .none kV dc pm an cd ct), sl⟩) (c : PySem.W.codeIn K cd "unbettered" = true) (k : PySem.W.keepIn K (.ref f) = true) :
    Fact K mg fs D9 "unbettered" :=
  ⟨f, oc, od, _, _, _, _, _, _, kV, dc, pm, cd, ct, an, sl, N9, ["web", "votes"], PySem.W.mg_of X G a, k, l, c, sc9, .all fun us hl => (match us, hl with | [_, _], _ => rfl), rfl, rfl, ck9⟩
theorem fact10 (X : K.In h) (G : h.Ns mainGlobals mg) {f : Addr} {od an : Option Addr} {sl : Array (Option Value)} {oc kV dc pm cd ct : Value}
    (a : PySem.W.nsIn K mainGlobals "_law_source" = some (some (.ref f))) (l : K.lookup f = some ⟨oc, od, .func (PySem.W.fnOf "_law_source" "_law_source" (defArgs (topS 14)) (defBody (topS 14)) (defScope (topS 14)) .none kV dc pm an cd ct), sl⟩) (c : PySem.W.codeIn K cd "_law_source" = true) (k : PySem.W.keepIn K (.ref f) = true) :
    Fact K mg fs D10 "_law_source" :=
  ⟨f, oc, od, _, _, _, _, _, _, kV, dc, pm, cd, ct, an, sl, N10, ["script"], PySem.W.mg_of X G a, k, l, c, sc10, .all fun us hl => (match us, hl with | [_], _ => rfl), rfl, rfl, ck10⟩
theorem fact11 (X : K.In h) (G : h.Ns mainGlobals mg) {f : Addr} {od an : Option Addr} {sl : Array (Option Value)} {oc kV dc pm cd ct : Value}
    (a : PySem.W.nsIn K mainGlobals "_law_pick" = some (some (.ref f))) (l : K.lookup f = some ⟨oc, od, .func (PySem.W.fnOf "_law_pick" "_law_pick" (defArgs (topS 15)) (defBody (topS 15)) (defScope (topS 15)) .none kV dc pm an cd ct), sl⟩) (c : PySem.W.codeIn K cd "_law_pick" = true) (k : PySem.W.keepIn K (.ref f) = true) :
    Fact K mg fs D11 "_law_pick" :=
  ⟨f, oc, od, _, _, _, _, _, _, kV, dc, pm, cd, ct, an, sl, N11, ["source", "many"], PySem.W.mg_of X G a, k, l, c, sc11, .all fun us hl => (match us, hl with | [_, _], _ => rfl), rfl, rfl, ck11⟩
theorem fact12 (X : K.In h) (G : h.Ns mainGlobals mg) {f : Addr} {od an : Option Addr} {sl : Array (Option Value)} {oc kV dc pm cd ct : Value}
    (a : PySem.W.nsIn K mainGlobals "_law_of" = some (some (.ref f))) (l : K.lookup f = some ⟨oc, od, .func (PySem.W.fnOf "_law_of" "_law_of" (defArgs (topS 16)) (defBody (topS 16)) (defScope (topS 16)) .none kV dc pm an cd ct), sl⟩) (c : PySem.W.codeIn K cd "_law_of" = true) (k : PySem.W.keepIn K (.ref f) = true) :
    Fact K mg fs D12 "_law_of" :=
  ⟨f, oc, od, _, _, _, _, _, _, kV, dc, pm, cd, ct, an, sl, N12, ["source", "some"], PySem.W.mg_of X G a, k, l, c, sc12, .all fun us hl => (match us, hl with | [_, _], _ => rfl), rfl, rfl, ck12⟩
theorem fact13 (X : K.In h) (G : h.Ns mainGlobals mg) {f : Addr} {od an : Option Addr} {sl : Array (Option Value)} {oc kV dc pm cd ct : Value}
    (a : PySem.W.nsIn K mainGlobals "_law_mixed" = some (some (.ref f))) (l : K.lookup f = some ⟨oc, od, .func (PySem.W.fnOf "_law_mixed" "_law_mixed" (defArgs (topS 17)) (defBody (topS 17)) (defScope (topS 17)) .none kV dc pm an cd ct), sl⟩) (c : PySem.W.codeIn K cd "_law_mixed" = true) (k : PySem.W.keepIn K (.ref f) = true) :
    Fact K mg fs D13 "_law_mixed" :=
  ⟨f, oc, od, _, _, _, _, _, _, kV, dc, pm, cd, ct, an, sl, N13, ["source", "things"], PySem.W.mg_of X G a, k, l, c, sc13, .all fun us hl => (match us, hl with | [_, _], _ => rfl), rfl, rfl, ck13⟩
theorem fact14 (X : K.In h) (G : h.Ns mainGlobals mg) {f : Addr} {od an : Option Addr} {sl : Array (Option Value)} {oc kV dc pm cd ct : Value}
    (a : PySem.W.nsIn K mainGlobals "_law_apart" = some (some (.ref f))) (l : K.lookup f = some ⟨oc, od, .func (PySem.W.fnOf "_law_apart" "_law_apart" (defArgs (topS 18)) (defBody (topS 18)) (defScope (topS 18)) .none kV dc pm an cd ct), sl⟩) (c : PySem.W.codeIn K cd "_law_apart" = true) (k : PySem.W.keepIn K (.ref f) = true) :
    Fact K mg fs D14 "_law_apart" :=
  ⟨f, oc, od, _, _, _, _, _, _, kV, dc, pm, cd, ct, an, sl, N14, ["one", "other"], PySem.W.mg_of X G a, k, l, c, sc14, .all fun us hl => (match us, hl with | [_, _], _ => rfl), rfl, rfl, ck14⟩
theorem fact15 (X : K.In h) (G : h.Ns mainGlobals mg) {f : Addr} {od an : Option Addr} {sl : Array (Option Value)} {oc kV dc pm cd ct : Value}
    (a : PySem.W.nsIn K mainGlobals "_law_hull_words" = some (some (.ref f))) (l : K.lookup f = some ⟨oc, od, .func (PySem.W.fnOf "_law_hull_words" "_law_hull_words" (defArgs (topS 19)) (defBody (topS 19)) (defScope (topS 19)) .none kV dc pm an cd ct), sl⟩) (c : PySem.W.codeIn K cd "_law_hull_words" = true) (k : PySem.W.keepIn K (.ref f) = true) :
    Fact K mg fs D15 "_law_hull_words" :=
  ⟨f, oc, od, _, _, _, _, _, _, kV, dc, pm, cd, ct, an, sl, N15, ["words", "some"], PySem.W.mg_of X G a, k, l, c, sc15, .all fun us hl => (match us, hl with | [_, _], _ => rfl), rfl, rfl, ck15⟩
theorem fact16 (X : K.In h) (G : h.Ns mainGlobals mg) {f : Addr} {od an : Option Addr} {sl : Array (Option Value)} {oc kV dc pm cd ct : Value}
    (a : PySem.W.nsIn K mainGlobals "_law_way_words" = some (some (.ref f))) (l : K.lookup f = some ⟨oc, od, .func (PySem.W.fnOf "_law_way_words" "_law_way_words" (defArgs (topS 20)) (defBody (topS 20)) (defScope (topS 20)) .none kV dc pm an cd ct), sl⟩) (c : PySem.W.codeIn K cd "_law_way_words" = true) (k : PySem.W.keepIn K (.ref f) = true) :
    Fact K mg fs D16 "_law_way_words" :=
  ⟨f, oc, od, _, _, _, _, _, _, kV, dc, pm, cd, ct, an, sl, N16, ["words", "one", "other"], PySem.W.mg_of X G a, k, l, c, sc16, .all fun us hl => (match us, hl with | [_, _, _], _ => rfl), rfl, rfl, ck16⟩
theorem fact17 (X : K.In h) (G : h.Ns mainGlobals mg) {f : Addr} {od an : Option Addr} {sl : Array (Option Value)} {oc kV dc pm cd ct : Value}
    (a : PySem.W.nsIn K mainGlobals "_law_words" = some (some (.ref f))) (l : K.lookup f = some ⟨oc, od, .func (PySem.W.fnOf "_law_words" "_law_words" (defArgs (topS 21)) (defBody (topS 21)) (defScope (topS 21)) .none kV dc pm an cd ct), sl⟩) (c : PySem.W.codeIn K cd "_law_words" = true) (k : PySem.W.keepIn K (.ref f) = true) :
    Fact K mg fs D17 "_law_words" :=
  ⟨f, oc, od, _, _, _, _, _, _, kV, dc, pm, cd, ct, an, sl, N17, ["source", "most", "is_median"], PySem.W.mg_of X G a, k, l, c, sc17, .all fun us hl => (match us, hl with | [_, _, _], _ => rfl), rfl, rfl, ck17⟩
theorem fact18 (X : K.In h) (G : h.Ns mainGlobals mg) {f : Addr} {od an : Option Addr} {sl : Array (Option Value)} {oc kV dc pm cd ct : Value}
    (a : PySem.W.nsIn K mainGlobals "_law_web" = some (some (.ref f))) (l : K.lookup f = some ⟨oc, od, .func (PySem.W.fnOf "_law_web" "_law_web" (defArgs (topS 22)) (defBody (topS 22)) (defScope (topS 22)) .none kV dc pm an cd ct), sl⟩) (c : PySem.W.codeIn K cd "_law_web" = true) (k : PySem.W.keepIn K (.ref f) = true) :
    Fact K mg fs D18 "_law_web" :=
  ⟨f, oc, od, _, _, _, _, _, _, kV, dc, pm, cd, ct, an, sl, N18, ["words"], PySem.W.mg_of X G a, k, l, c, sc18, .all fun us hl => (match us, hl with | [_], _ => rfl), rfl, rfl, ck18⟩
theorem fact19 (X : K.In h) (G : h.Ns mainGlobals mg) {f : Addr} {od an : Option Addr} {sl : Array (Option Value)} {oc kV dc pm cd ct : Value}
    (a : PySem.W.nsIn K mainGlobals "_law_table" = some (some (.ref f))) (l : K.lookup f = some ⟨oc, od, .func (PySem.W.fnOf "_law_table" "_law_table" (defArgs (topS 23)) (defBody (topS 23)) (defScope (topS 23)) .none kV dc pm an cd ct), sl⟩) (c : PySem.W.codeIn K cd "_law_table" = true) (k : PySem.W.keepIn K (.ref f) = true) :
    Fact K mg fs D19 "_law_table" :=
  ⟨f, oc, od, _, _, _, _, _, _, kV, dc, pm, cd, ct, an, sl, N19, ["words"], PySem.W.mg_of X G a, k, l, c, sc19, .all fun us hl => (match us, hl with | [_], _ => rfl), rfl, rfl, ck19⟩
theorem fact20 (X : K.In h) (G : h.Ns mainGlobals mg) {f : Addr} {od an : Option Addr} {sl : Array (Option Value)} {oc kV dc pm cd ct : Value}
    (a : PySem.W.nsIn K mainGlobals "_law_votes" = some (some (.ref f))) (l : K.lookup f = some ⟨oc, od, .func (PySem.W.fnOf "_law_votes" "_law_votes" (defArgs (topS 24)) (defBody (topS 24)) (defScope (topS 24)) .none kV dc pm an cd ct), sl⟩) (c : PySem.W.codeIn K cd "_law_votes" = true) (k : PySem.W.keepIn K (.ref f) = true) :
    Fact K mg fs D20 "_law_votes" :=
  ⟨f, oc, od, _, _, _, _, _, _, kV, dc, pm, cd, ct, an, sl, N20, ["source", "n"], PySem.W.mg_of X G a, k, l, c, sc20, .all fun us hl => (match us, hl with | [_, _], _ => rfl), rfl, rfl, ck20⟩
theorem fact21 (X : K.In h) (G : h.Ns mainGlobals mg) {f : Addr} {od an : Option Addr} {sl : Array (Option Value)} {oc kV dc pm cd ct : Value}
    (a : PySem.W.nsIn K mainGlobals "_law_far" = some (some (.ref f))) (l : K.lookup f = some ⟨oc, od, .func (PySem.W.fnOf "_law_far" "_law_far" (defArgs (topS 25)) (defBody (topS 25)) (defScope (topS 25)) .none kV dc pm an cd ct), sl⟩) (c : PySem.W.codeIn K cd "_law_far" = true) (k : PySem.W.keepIn K (.ref f) = true) :
    Fact K mg fs D21 "_law_far" :=
  ⟨f, oc, od, _, _, _, _, _, _, kV, dc, pm, cd, ct, an, sl, N21, ["table", "votes"], PySem.W.mg_of X G a, k, l, c, sc21, .all fun us hl => (match us, hl with | [_, _], _ => rfl), rfl, rfl, ck21⟩
theorem fact22 (X : K.In h) (G : h.Ns mainGlobals mg) {f : Addr} {od an : Option Addr} {sl : Array (Option Value)} {oc kV dc pm cd ct : Value}
    (a : PySem.W.nsIn K mainGlobals "law" = some (some (.ref f))) (l : K.lookup f = some ⟨oc, od, .func (PySem.W.fnOf "law" "law" (defArgs (topS 26)) (defBody (topS 26)) (defScope (topS 26)) .none kV dc pm an cd ct), sl⟩) (c : PySem.W.codeIn K cd "law" = true) (k : PySem.W.keepIn K (.ref f) = true) :
    Fact K mg fs D22 "law" :=
  ⟨f, oc, od, _, _, _, _, _, _, kV, dc, pm, cd, ct, an, sl, N22, ["script"], PySem.W.mg_of X G a, k, l, c, sc22, .all fun us hl => (match us, hl with | [_], _ => rfl), rfl, rfl, ck22⟩
end
end K48

namespace K48
open Rf Cm CG
abbrev C (d : Nat) := Cm.C tbl d
abbrev E (a2 a3 a4 a5 a6 a7 a8 a9 a10 a11 a12 a13 a14 a15 a16 a17 : Option Val) : Rf.Env := [some (.ref 0), some (.ref 3), a2, a3, a4, a5, a6, a7, a8, a9, a10, a11, a12, a13, a14, a15, a16, a17]
def LB : B := CG.loopB (bnth D22.body 1)
structure Ok (dd : Nat) (W : List (List Int)) (ts : List (Nat × Nat)) : Prop where
  iso : Iso dd W
  web : WebOf W ts
  ne : W ≠ []
  few : W.length ≤ 22
  hd : dd ≤ 9
variable {d : Nat} {S SB : Store} {a2 a3 a4 a5 a6 a7 a8 a9 a10 a11 a12 a13 a14 a15 a16 a17 : Option Val} {dd i q tr fr br ur : Nat} {md : Bool} {W : List (List Int)} {ts : List (Nat × Nat)} {v w : List Nat}
theorem mids (h : Ok dd W ts) (hv : v.length = W.length) : ∃ S', C (d + 4) 5 [webV W.length ts, .tup (nv v)] S = some (.tup (nv (midF W.length (fs1 W v))), S') ∧ Kp S S' := by
  have := h.few
  have := h.hd
  exact c_mid (d := d) (f := 5) (s0 := 4) (d0 := 2) (f0 := 3) (n0 := 0) (r0 := 1) rfl rfl rfl rfl rfl rfl h.iso h.web (by omega) h.ne (by omega) (by omega)
theorem fsums (h : Ok dd W ts) (hv : v.length = W.length) : ∃ S', C (d + 4) 4 [webV W.length ts, .tup (nv v)] S = some (.tup (nv (sumsL W v)), S') ∧ Kp S S' := by
  have := h.few
  have := h.hd
  exact c_fs (d := d + 1) (f := 4) (d0 := 2) (f0 := 3) (n0 := 0) (r0 := 1) rfl rfl rfl rfl rfl h.iso h.web (by omega) (by omega) (by omega)
theorem betp (h : Ok dd W ts) (hv : v.length = W.length) {x : Nat} (hx : x < W.length) : ∃ S', C (d + 4) 7 [webV W.length ts, .tup (nv v), .int (x : Int)] S = some (oV (best W v x), S') ∧ Kp S S' := by
  have := h.few
  have := h.hd
  exact c_betP (d := d) (f := 7) (b := 6) (s0 := 4) (d0 := 2) (f0 := 3) (n0 := 0) (r0 := 1) rfl rfl rfl rfl rfl rfl rfl h.iso h.web (by omega) (by omega) (by omega) hx
theorem downs (h : Ok dd W ts) (hv : v.length = W.length) {x : Nat} (hx : x < W.length) : ∃ R S', C (d + 4) 8 [webV W.length ts, .tup (nv v), .int (x : Int)] S = some (.tup (nv R), S') ∧ Kp S S' ∧ Down W v x R := by
  have := h.few
  have := h.hd
  exact c_down (d := d) (f := 8) (b := 6) (s0 := 4) (d0 := 2) (f0 := 3) (n0 := 0) (r0 := 1) rfl rfl rfl rfl rfl rfl rfl h.iso h.web (by omega) (by omega) (by omega) hx
theorem unbs (h : Ok dd W ts) (hv : v.length = W.length) : ∃ S', C (d + 4) 9 [webV W.length ts, .tup (nv v)] S = some (.tup (nv (freeL W v)), S') ∧ Kp S S' := by
  have := h.few
  have := h.hd
  exact c_unb (d := d) (f := 9) (b := 6) (s0 := 4) (d0 := 2) (f0 := 3) (n0 := 0) (r0 := 1) rfl rfl rfl rfl rfl rfl rfl h.iso h.web (by omega) (by omega) (by omega)
theorem Ok.pos (h : Ok dd W ts) : 0 < W.length := List.length_pos_iff.mpr h.ne
theorem Ok.shown (h : Ok dd W ts) : okD (webD W.length ts) = true := by
  have h1 := h.few
  have h2 := h.web.few
  have h3 : W.length * W.length ≤ 22 * 22 := Nat.mul_le_mul h1 h1
  refine ok_webD (by omega) (fun t ht => ?_) (by omega)
  have := h.web.ties.lt t ht
  omega
theorem s0 (hs : SrcOk S) : ∃ md S', ex (C (d + 4)) 200 (bnth LB 0) (E a2 a3 a4 a5 a6 a7 a8 a9 a10 a11 a12 a13 a14 a15 a16 a17) S = some (.nx, (E a2 a3 (some (.bl md)) a5 a6 a7 a8 a9 a10 a11 a12 a13 a14 a15 a16 a17), S') ∧ Fr S S' := by
  obtain ⟨k, S1, hk, e1, f1⟩ := c_pgn (d := d + 3) (f := 11) (tbl := tbl) rfl (m := 3) hs (by decide) (by decide)
  exact ⟨_, S1, ex_asg (ev_cmp (ev_call (evs_cons rfl (evs_cons rfl evs_nil)) e1) rfl (show cmpV .gt (.int (k : Int)) (.int 0) S1 = some (decide ((0 : Int) < (k : Int))) from rfl)) rfl, f1⟩
theorem s1 (hs : SrcOk S) (hi : i < 5) : ∃ q dd W S', ex (C (d + 4)) 200 (bnth LB 1) (E (some (.int (i : Int))) a3 (some (.bl md)) a5 a6 a7 a8 a9 a10 a11 a12 a13 a14 a15 a16 a17) S = some (.nx, (E (some (.int (i : Int))) a3 (some (.bl md)) (some (.ref q)) a6 a7 a8 a9 a10 a11 a12 a13 a14 a15 a16 a17), S') ∧ Fr S S' ∧ Lot S' q dd 22 W ∧ dd ≤ 9 ∧ Good md W := by
  have f1 := Fr.le hs (Le.add S [Rf.Obj.lst false [.int 4, .int 8, .int 12, .int 16, .int 16]])
  obtain ⟨m, hm, hm1, hm2⟩ : ∃ m : Nat, ([.int 4, .int 8, .int 12, .int 16, .int 16] : List Val)[i]? = some (.int (m : Int)) ∧ 1 ≤ m ∧ m ≤ 16 := by
    match i, hi with
    | 0, _ => exact ⟨4, rfl, by decide, by decide⟩
    | 1, _ => exact ⟨8, rfl, by decide, by decide⟩
    | 2, _ => exact ⟨12, rfl, by decide, by decide⟩
    | 3, _ => exact ⟨16, rfl, by decide, by decide⟩
    | 4, _ => exact ⟨16, rfl, by decide, by decide⟩
  obtain ⟨q, dd, W, S', e, f2, hL, hd, hG⟩ := c_wordsG (d := d + 1) (f := 17) (p := 11) (o := 12) (h := 15) (w := 16) (a := 14) (m := 13) (md := md) (tbl := tbl) rfl rfl rfl rfl rfl rfl rfl f1.src hm1 (by omega)
  exact ⟨q, dd, W, S', ex_asg (ev_call (evs_cons rfl (evs_cons (ev_idx (ev_lst (evs_cons rfl (evs_cons rfl (evs_cons rfl (evs_cons rfl (evs_cons rfl evs_nil))))) (show 5 ≤ 1000000 by decide)) rfl (ix_lst get_last (at_nat hm))) (evs_cons rfl evs_nil))) e) rfl, f1.trans f2, ⟨hL.at_, hL.iso, hL.ne, Nat.le_trans hL.few (by omega), hL.lo⟩, hd, hG⟩
theorem s2 (hL : Lot S q dd 22 W) (hd : dd ≤ 9) : ∃ ts tr S', ex (C (d + 4)) 200 (bnth LB 2) (E a2 a3 a4 (some (.ref q)) a6 a7 a8 a9 a10 a11 a12 a13 a14 a15 a16 a17) S = some (.nx, (E a2 a3 a4 (some (.ref q)) a6 a7 (some (webV W.length ts)) (some (.ref tr)) a10 a11 a12 a13 a14 a15 a16 a17), S') ∧ Le S S' ∧ Ok dd W ts ∧ NearHi S' tr W.length (rowL W) S.length := by
  have hf := hL.few
  have hlen : ∀ w ∈ W, w.length < 900 := fun w hw => by rw [hL.iso.len w hw]; omega
  obtain ⟨ts, S1, e1, l1, hw⟩ := c_web (d := d + 2) (f := 18) (a := 14) (tbl := tbl) rfl rfl hL.at_ (by omega) hlen
  obtain ⟨tr, S2, e2, l2, hN⟩ := c_table (d := d + 2) (f := 19) (a := 14) (tbl := tbl) rfl rfl (l1.get hL.at_) (by omega) hlen
  obtain ⟨rs, h1, hr, h2, h3⟩ := hN
  have hk := (Kp.of l1).len
  have hN : NearHi S2 tr W.length (rowL W) S.length := ⟨rs, h1, by omega, h2, fun a ha => let ⟨x, e1, hx, e2⟩ := h3 a ha; ⟨x, e1, by omega, e2⟩⟩
  exact ⟨ts, tr, S2, ex_asg (ev_tup (vs := [webV W.length ts, .ref tr]) (evs_cons (ev_call (evs_cons rfl evs_nil) e1) (evs_cons (ev_call (evs_cons rfl evs_nil) e2) evs_nil)) (show 2 ≤ 1000000 by decide)) rfl, l1.trans l2, ⟨hL.iso, hw, hL.ne, hf, hd⟩, hN⟩
theorem s3 (h : Ok dd W ts) (hs : SrcOk S) : ∃ v S', ex (C (d + 4)) 200 (bnth LB 3) (E a2 a3 a4 a5 a6 a7 (some (webV W.length ts)) a9 a10 a11 a12 a13 a14 a15 a16 a17) S = some (.nx, (E a2 a3 a4 a5 a6 a7 (some (webV W.length ts)) a9 (some (.int (W.length : Int))) (some (.str (webD W.length ts).shown)) (some (.tup (nv v))) a13 a14 a15 a16 a17), S') ∧ Fr S S' ∧ v.length = W.length := by
  have hp := h.pos
  have hf := h.few
  obtain ⟨v, S1, e1, f1, hv, _⟩ := c_votes (d := d + 2) (f := 20) (p := 11) (tbl := tbl) (n := W.length) rfl rfl hs hp (by omega)
  exact ⟨v, S1, ex_asg (ev_tup (vs := [.int (W.length : Int), .str (webD W.length ts).shown, .tup (nv v)]) (evs_cons (ev_idx rfl rfl rfl) (evs_cons (ev_repr rfl dat_web h.shown) (evs_cons (ev_call (evs_cons rfl (evs_cons (ev_idx rfl rfl rfl) evs_nil)) e1) evs_nil))) (show 3 ≤ 1000000 by decide)) rfl, f1, hv⟩
theorem s4 (h : Ok dd W ts) (hv : v.length = W.length) (hN : NearOk S tr W.length (rowL W)) : ∃ fr br SB S', ex (C (d + 4)) 200 (bnth LB 4) (E a2 a3 a4 a5 a6 a7 a8 (some (.ref tr)) a10 a11 (some (.tup (nv v))) a13 a14 a15 a16 a17) S = some (.nx, (E a2 a3 a4 a5 a6 a7 a8 (some (.ref tr)) a10 a11 (some (.tup (nv v))) (some (.ref fr)) (some (.ref br)) a15 a16 a17), S') ∧ Kp S SB ∧ Kp SB S' ∧ SB[fr]? = some (.lst false (nv (sumsL W v))) ∧ SB.length ≤ br ∧ S'[br]? = some (.lst false []) := by
  have hf := h.few
  have hd := h.hd
  obtain ⟨fr, SB, e1, l1, g1⟩ := c_far (d := d + 3) (f := 21) (tbl := tbl) rfl h.iso (by omega) (by omega) (v := v) (by omega) hN
  rw [← nv_zi] at g1
  exact ⟨fr, SB.length, SB, _, ex_asg (ev_tup (vs := [.ref fr, .ref SB.length]) (evs_cons (ev_call (evs_cons rfl (evs_cons rfl evs_nil)) e1) (evs_cons (ev_lst evs_nil (show 0 ≤ 1000000 by decide)) evs_nil)) (show 2 ≤ 1000000 by decide)) rfl, Kp.of l1, .add _ _, g1, Nat.le_refl _, get_last⟩
theorem sums_len : (sumsL W v).length = W.length := by simp [sumsL]
theorem s5 (h : Ok dd W ts) (hv : v.length = W.length) (hr : S[fr]? = some (.lst false (nv (sumsL W v)))) : ∃ S', ex (C (d + 4)) 200 (bnth LB 5) (E a2 a3 a4 a5 a6 a7 (some (webV W.length ts)) a9 a10 a11 (some (.tup (nv v))) (some (.ref fr)) a14 a15 a16 a17) S = some (.nx, (E a2 a3 a4 a5 a6 a7 (some (webV W.length ts)) a9 a10 a11 (some (.tup (nv v))) (some (.ref fr)) a14 a15 a16 a17), S') ∧ Kp S S' := by
  have hf := h.few
  obtain ⟨S1, e1, k1⟩ := fsums (d := d) (S := S) h hv
  have t1 : ev (C (d + 4)) (.cmp .ne (.bi .list (.cons (.call 4 (.cons (.slot 8) (.cons (.slot 12) .nil))) .nil)) (.slot 13)) (E a2 a3 a4 a5 a6 a7 (some (webV W.length ts)) a9 a10 a11 (some (.tup (nv v))) (some (.ref fr)) a14 a15 a16 a17) S = some (.bl false, S1 ++ [.lst false (nv (sumsL W v))]) := by
    refine ev_cmp (ev_bi (evs_cons (ev_call (evs_cons rfl (evs_cons rfl evs_nil)) e1) evs_nil) (list_tup (by rw [nv_len, sums_len]; omega))) rfl ?_
    rw [ne_nn get_last ((Le.add _ _).get (k1 _ _ hr)), decide_eq_true rfl]; rfl
  exact ⟨_, ex_else t1 exs_nil, k1.trans (.add _ _)⟩
def betL (W : List (List Int)) (v : List Nat) (n : Nat) : List (Option Nat) := (List.range n).map (best W v)
def QB : B := CG.loopB (bnth LB 6)
theorem turn6 {x : Nat} {pre : List Val} (h : Ok dd W ts) (hN : NearOk S tr W.length (rowL W)) (hr : S[fr]? = some (.lst false (nv (sumsL W v)))) (hb : S[br]? = some (.lst false pre)) (hp : pre.length < 1000) (hx : x < W.length) :
    ∃ c S', exs (C (d + 4)) 200 QB (E a2 a3 a4 a5 (some (.int (x : Int))) a7 a8 (some (.ref tr)) (some (.int (W.length : Int))) a11 a12 (some (.ref fr)) (some (.ref br)) a15 a16 a17) S = some (.nx, (E a2 a3 a4 a5 (some (.int (x : Int))) a7 a8 (some (.ref tr)) (some (.int (W.length : Int))) a11 a12 (some (.ref fr)) (some (.ref br)) (some (.ref c)) a16 a17), S'.set br (.lst false (pre ++ [oV (best W v x)]))) ∧ Le S S' := by
  have hf := h.few
  have at_ : ∀ z, z < W.length → ∃ w, W[z]? = some w := fun z hz => ⟨_, List.getElem?_eq_getElem hz⟩
  obtain ⟨row, er, gr⟩ := hN.at hx
  rw [← nv_zi] at gr
  obtain ⟨S2, e2, l2⟩ := lc_map (f := dTurn [17] (asg (C (d + 4)) (.slot 17)) (ev (C (d + 4)) (.and (.cmp .eq (.idx (.idx (.slot 9) (.slot 6)) (.slot 17)) (.k (.int 1))) (.cmp .lt (.idx (.slot 13) (.slot 17)) (.idx (.slot 13) (.slot 6))))) (ev (C (d + 4)) (.tup (.cons (.idx (.slot 13) (.slot 17)) (.cons (.slot 17) .nil)))) (E a2 a3 a4 a5 (some (.int (x : Int))) a7 a8 (some (.ref tr)) (some (.int (W.length : Int))) a11 a12 (some (.ref fr)) (some (.ref br)) a15 a16 a17))
    (J := .rng 0 1 W.length) (ws := List.range W.length) (t := fun b : Nat => Val.int (0 + (b : Int))) (S := S) (fun y => if (adjW W x y && decide (fs1 W v y < fs1 W v x)) = true then some (tieV (fs1 W v y, y)) else none) its_rng (by rw [List.length_range]; omega) (by
      intro y hy S' l
      have hy := List.mem_range.mp hy
      rw [Int.zero_add]
      obtain ⟨wx, gx⟩ := at_ x hx
      obtain ⟨wy, gy⟩ := at_ y hy
      obtain ⟨rs, hn1, hn2, hn3⟩ := hN
      have hix : ixV (.ref tr) (.int (x : Int)) S' = some (.ref row) := by
        obtain ⟨c, hc1, hc2⟩ := hn3 x hx
        have e1 : ixV (.ref tr) (.int (x : Int)) S = some (.ref c) := ix_lst hn1 (at_nat (by rw [List.getElem?_map, hc1]; rfl))
        rw [e1] at er
        have := Val.ref.inj (Option.some.inj er)
        subst this
        exact ix_lst (l.get hn1) (at_nat (by rw [List.getElem?_map, hc1]; rfl))
      have hc : ixV (.ref row) (.int (y : Int)) S' = some (.int (ham wx wy : Nat)) := ix_lst (l.get gr) (at_nat (by rw [nv, List.getElem?_map, rowL_at gx gy]; rfl))
      have t1 : ev (C (d + 4)) (.cmp .eq (.idx (.idx (.slot 9) (.slot 6)) (.slot 17)) (.k (.int 1))) (E a2 a3 a4 a5 (some (.int (x : Int))) a7 a8 (some (.ref tr)) (some (.int (W.length : Int))) a11 a12 (some (.ref fr)) (some (.ref br)) a15 a16 (some (.int (y : Int)))) S' = some (.bl (adjW W x y), S') := by
        rw [adjW_at gx gy]
        exact ev_cmp (ev_idx (ev_idx rfl rfl hix) rfl hc) rfl (eq_nat (n := 1))
      have hly := sums_ixl (S := S') (v := v) (x := y) (l.get hr) hy
      have hlx := sums_ixl (S := S') (v := v) (x := x) (l.get hr) hx
      have t2 : ev (C (d + 4)) (.cmp .lt (.idx (.slot 13) (.slot 17)) (.idx (.slot 13) (.slot 6))) (E a2 a3 a4 a5 (some (.int (x : Int))) a7 a8 (some (.ref tr)) (some (.int (W.length : Int))) a11 a12 (some (.ref fr)) (some (.ref br)) a15 a16 (some (.int (y : Int)))) S' = some (.bl (decide (fs1 W v y < fs1 W v x)), S') := ev_cmp (ev_idx rfl rfl hly) (ev_idx rfl rfl hlx) lt_nat
      have t : ev (C (d + 4)) (.and (.cmp .eq (.idx (.idx (.slot 9) (.slot 6)) (.slot 17)) (.k (.int 1))) (.cmp .lt (.idx (.slot 13) (.slot 17)) (.idx (.slot 13) (.slot 6)))) (E a2 a3 a4 a5 (some (.int (x : Int))) a7 a8 (some (.ref tr)) (some (.int (W.length : Int))) a11 a12 (some (.ref fr)) (some (.ref br)) a15 a16 (some (.int (y : Int)))) S' = some (.bl (adjW W x y && decide (fs1 W v y < fs1 W v x)), S') := by
        cases hq : adjW W x y with
        | true => rw [hq] at t1; exact ev_and1 t1 t2
        | false => rw [hq] at t1; exact ev_and0 t1
      by_cases q : (adjW W x y && decide (fs1 W v y < fs1 W v x)) = true
      · rw [if_pos q]
        rw [q] at t
        exact ⟨S', turn_t (ρ1 := (E a2 a3 a4 a5 (some (.int (x : Int))) a7 a8 (some (.ref tr)) (some (.int (W.length : Int))) a11 a12 (some (.ref fr)) (some (.ref br)) a15 a16 (some (.int (y : Int))))) rfl t (ev_tup (evs_cons (ev_idx rfl rfl hly) (evs_cons rfl evs_nil)) (show 2 ≤ 1000000 by decide)), .refl _⟩
      · rw [if_neg q]
        rw [Bool.eq_false_iff.mpr q] at t
        exact ⟨S', turn_f (ρ1 := (E a2 a3 a4 a5 (some (.int (x : Int))) a7 a8 (some (.ref tr)) (some (.int (W.length : Int))) a11 a12 (some (.ref fr)) (some (.ref br)) a15 a16 (some (.int (y : Int))))) rfl t, .refl _⟩)
  rw [filterMap_if, List.length_range] at e2
  have em : ((List.range W.length).filter fun y => adjW W x y && decide (fs1 W v y < fs1 W v x)).map (fun y => tieV (fs1 W v y, y)) = (pairsC W v x).map tieV := by unfold pairsC cand; rw [List.map_map]; rfl
  rw [em] at e2
  obtain ⟨S3, e3, l3⟩ := ev_best (cf := C (d + 4)) (i := 15) (ρ := (E a2 a3 a4 a5 (some (.int (x : Int))) a7 a8 (some (.ref tr)) (some (.int (W.length : Int))) a11 a12 (some (.ref fr)) (some (.ref br)) (some (.ref S2.length)) a16 a17)) (S := S2 ++ [.lst false ((pairsC W v x).map tieV)]) rfl get_last
  have lA := l2.trans (Le.add S2 [Rf.Obj.lst false ((pairsC W v x).map tieV)])
  refine ⟨S2.length, S3, exs_nx (ex_asg (ev_lc (evI_rng1 (j := (W.length : Int)) (evs_cons rfl evs_nil) (rng_small (by omega))) (n := W.length) (Int.toNat_natCast _) e2) rfl) (exs_nx (ex_ex (ev_mt rfl (rcv_lst (lA.get hb)) (evs_cons e3 evs_nil) (app_lst ((lA.trans l3).get hb) (by omega)))) exs_nil), lA.trans l3⟩
theorem s6 (h : Ok dd W ts) (hN : NearOk SB tr W.length (rowL W)) (hr : SB[fr]? = some (.lst false (nv (sumsL W v)))) (k : Kp SB S) (hb : S[br]? = some (.lst false [])) (hbl : SB.length ≤ br) : ∃ z6 z15 S', ex (C (d + 4)) 200 (bnth LB 6) (E a2 a3 a4 a5 a6 a7 a8 (some (.ref tr)) (some (.int (W.length : Int))) a11 a12 (some (.ref fr)) (some (.ref br)) a15 a16 a17) S = some (.nx, (E a2 a3 a4 a5 z6 a7 a8 (some (.ref tr)) (some (.int (W.length : Int))) a11 a12 (some (.ref fr)) (some (.ref br)) z15 a16 a17), S') ∧ Kp SB S' ∧ S'[br]? = some (.lst false ((betL W v W.length).map oV)) := by
  have hf := h.few
  obtain ⟨ρ', S1, e1, z6, z15, rfl, k1, g1⟩ := loop_inv (set := asg (C (d + 4)) (.slot 6)) (body := exs (C (d + 4)) 200 QB) (J := .rng 0 1 W.length) (vs := (List.range W.length).map fun i : Nat => .int (0 + (i : Int))) (ρ := (E a2 a3 a4 a5 a6 a7 a8 (some (.ref tr)) (some (.int (W.length : Int))) a11 a12 (some (.ref fr)) (some (.ref br)) a15 a16 a17)) (S := S)
    (fun i ρ S' => ∃ z6 z15, ρ = (E a2 a3 a4 a5 z6 a7 a8 (some (.ref tr)) (some (.int (W.length : Int))) a11 a12 (some (.ref fr)) (some (.ref br)) z15 a16 a17) ∧ Kp SB S' ∧ S'[br]? = some (.lst false ((betL W v i).map oV))) ⟨a6, a15, rfl, k, hb⟩ (fun i ρ S' _ => its_rng S' (.refl _) i) (by
      rintro x y ρ S' ⟨z6, z15, rfl, k, g⟩ hv
      have hx : x < W.length := by
        have := (List.getElem?_eq_some_iff.mp hv).1
        simpa using this
      have hv' : y = .int (x : Nat) := by
        rw [List.getElem?_map, List.getElem?_range hx] at hv
        rw [← Option.some.inj hv]
        show Val.int (0 + (x : Int)) = _
        rw [Int.zero_add]
      subst hv'
      obtain ⟨c, S2, e2, l2⟩ := turn6 (d := d) (S := S') (a15 := z15) (a2 := a2) (a3 := a3) (a4 := a4) (a5 := a5) (a7 := a7) (a8 := a8) (a11 := a11) (a12 := a12) (a16 := a16) (a17 := a17) h (hN.kp k) (k _ _ hr) g (by rw [List.length_map, betL, List.length_map, List.length_range]; omega) hx
      refine ⟨_, _, rfl, _, _, e2, _, _, rfl, (k.trans (Kp.of l2)).set hbl, ?_⟩
      rw [set_at (l2.get g)]
      unfold betL
      rw [List.range_succ, List.map_append, List.map_append]; rfl)
  rw [List.length_map, List.length_range] at e1 g1
  exact ⟨z6, z15, S1, ex_loop (evI_rng1 (j := (W.length : Int)) (evs_cons rfl evs_nil) (rng_small (by omega))) (n := W.length) (Int.toNat_natCast _) e1, k1, g1⟩
theorem bet_at {x : Nat} (hx : x < W.length) (hb : S[br]? = some (.lst false ((betL W v W.length).map oV))) : ixV (.ref br) (.int (x : Int)) S = some (oV (best W v x)) :=
  ix_lst hb (at_nat (by unfold betL; rw [List.map_map, List.getElem?_map, List.getElem?_range hx]; rfl))
theorem bet_ok (h : Ok dd W ts) : okD (.list (((betL W v W.length).map oV).map atD)) = true := by
  have hf := h.few
  refine ok_os (fun y hy => ?_) (by unfold betL; rw [List.length_map, List.length_range]; omega)
  unfold betL at hy
  obtain ⟨x, _, e⟩ := List.mem_map.mp hy
  have := (best_some e).1
  omega
theorem s7 (h : Ok dd W ts) (hv : v.length = W.length) (hb : S[br]? = some (.lst false ((betL W v W.length).map oV))) : ∃ S', ex (C (d + 4)) 200 (bnth LB 7) (E a2 a3 a4 a5 a6 a7 (some (webV W.length ts)) a9 (some (.int (W.length : Int))) a11 (some (.tup (nv v))) a13 (some (.ref br)) a15 a16 a17) S = some (.nx, (E a2 a3 a4 a5 a6 a7 (some (webV W.length ts)) a9 (some (.int (W.length : Int))) a11 (some (.tup (nv v))) a13 (some (.ref br)) a15 a16 a17), S') ∧ Kp S S' := by
  have hf := h.few
  obtain ⟨ys, S2, e2, k2, hy⟩ : ∃ ys S2, lcGo (dTurn [6] (asg (C (d + 4)) (.slot 6)) (ev (C (d + 4)) (.k (.bl true))) (ev (C (d + 4)) (.call 7 (.cons (.slot 8) (.cons (.slot 12) (.cons (.slot 6) .nil))))) (E a2 a3 a4 a5 a6 a7 (some (webV W.length ts)) a9 (some (.int (W.length : Int))) a11 (some (.tup (nv v))) a13 (some (.ref br)) a15 a16 a17)) (.rng 0 1 W.length) (W.length + 1) 0 0 S = some (ys, S2) ∧ Kp S S2 ∧ ys = (betL W v W.length).map oV := by
    obtain ⟨ys, S2, e2, ⟨k2, hy⟩, hl⟩ := lc_acc (f := dTurn [6] (asg (C (d + 4)) (.slot 6)) (ev (C (d + 4)) (.k (.bl true))) (ev (C (d + 4)) (.call 7 (.cons (.slot 8) (.cons (.slot 12) (.cons (.slot 6) .nil))))) (E a2 a3 a4 a5 a6 a7 (some (webV W.length ts)) a9 (some (.int (W.length : Int))) a11 (some (.tup (nv v))) a13 (some (.ref br)) a15 a16 a17)) (J := .rng 0 1 W.length) (n := W.length) (S := S)
      (fun ys S' => Kp S S' ∧ ys = (betL W v ys.length).map oV) (fun i => .int (0 + (i : Int) * 1)) ⟨.refl _, rfl⟩ (fun ys S' _ _ => rfl) (by omega) (by
        rintro ys S' ⟨k, hy⟩ hl
        rw [Int.mul_one, Int.zero_add]
        obtain ⟨S3, e3, k3⟩ := betp (d := d) (S := S') h hv hl
        refine ⟨_, S3, turn_yes (ρ1 := (E a2 a3 a4 a5 (some (.int (ys.length : Int))) a7 (some (webV W.length ts)) a9 (some (.int (W.length : Int))) a11 (some (.tup (nv v))) a13 (some (.ref br)) a15 a16 a17)) rfl (ev_call (evs_cons rfl (evs_cons rfl (evs_cons rfl evs_nil))) e3), k.trans k3, ?_⟩
        rw [List.length_append, List.length_singleton]
        unfold betL
        rw [List.range_succ, List.map_append, List.map_append]
        have hy2 := hy
        unfold betL at hy2
        rw [← hy2]; rfl)
    exact ⟨ys, S2, e2, k2, by rw [hl] at hy; exact hy⟩
  subst hy
  have hok := bet_ok (v := v) h
  refine ⟨_, ex_else (ev_cmp (ev_repr (ev_lc (evI_rng1 (j := (W.length : Int)) (evs_cons rfl evs_nil) (rng_small (by omega))) (n := W.length) (Int.toNat_natCast _) e2) (dat_os get_last) hok) (ev_repr rfl (dat_os ((Le.add _ _).get (k2 _ _ hb))) hok) (ne_shown hok)) exs_nil, k2.trans (.add _ _)⟩
theorem s8 (h : Ok dd W ts) (hb : S[br]? = some (.lst false ((betL W v W.length).map oV))) : ∃ ur S', ex (C (d + 4)) 200 (bnth LB 8) (E a2 a3 a4 a5 a6 a7 a8 a9 (some (.int (W.length : Int))) a11 a12 a13 (some (.ref br)) a15 a16 a17) S = some (.nx, (E a2 a3 a4 a5 a6 (some (.ref ur)) a8 a9 (some (.int (W.length : Int))) a11 a12 a13 (some (.ref br)) a15 a16 a17), S') ∧ Le S S' ∧ S'[ur]? = some (.lst false (nv (freeL W v))) := by
  have hf := h.few
  obtain ⟨S3, e3, l3⟩ := lc_map (f := dTurn [6] (asg (C (d + 4)) (.slot 6)) (ev (C (d + 4)) (.cmp .is (.idx (.slot 14) (.slot 6)) (.k .non))) (ev (C (d + 4)) (.slot 6)) (E a2 a3 a4 a5 a6 a7 a8 a9 (some (.int (W.length : Int))) a11 a12 a13 (some (.ref br)) a15 a16 a17))
    (J := .rng 0 1 W.length) (ws := List.range W.length) (t := fun i : Nat => Val.int (0 + (i : Int))) (S := S) (fun x => if (best W v x).isNone = true then some (Val.int (x : Int)) else none) its_rng (by rw [List.length_range]; omega) (by
      intro x hx S' l
      have hx := List.mem_range.mp hx
      rw [Int.zero_add]
      have t : ev (C (d + 4)) (.cmp .is (.idx (.slot 14) (.slot 6)) (.k .non)) (E a2 a3 a4 a5 (some (.int (x : Int))) a7 a8 a9 (some (.int (W.length : Int))) a11 a12 a13 (some (.ref br)) a15 a16 a17) S' = some (.bl (best W v x).isNone, S') := ev_cmp (ev_idx rfl rfl (bet_at hx (l.get hb))) rfl is_o
      by_cases q : (best W v x).isNone = true
      · rw [if_pos q]
        rw [q] at t
        exact ⟨S', turn_t (ρ1 := (E a2 a3 a4 a5 (some (.int (x : Int))) a7 a8 a9 (some (.int (W.length : Int))) a11 a12 a13 (some (.ref br)) a15 a16 a17)) rfl t rfl, .refl _⟩
      · rw [if_neg q]
        rw [Bool.eq_false_iff.mpr q] at t
        exact ⟨S', turn_f (ρ1 := (E a2 a3 a4 a5 (some (.int (x : Int))) a7 a8 a9 (some (.int (W.length : Int))) a11 a12 a13 (some (.ref br)) a15 a16 a17)) rfl t, .refl _⟩)
  rw [filterMap_if, List.length_range] at e3
  exact ⟨S3.length, _, ex_asg (ev_lc (evI_rng1 (j := (W.length : Int)) (evs_cons rfl evs_nil) (rng_small (by omega))) (n := W.length) (Int.toNat_natCast _) e3) rfl, l3.trans (.add _ _), get_last⟩
end K48

namespace K48
open Rf Cm CG
variable {d : Nat} {S SB : Store} {a2 a3 a4 a5 a6 a7 a8 a9 a10 a11 a12 a13 a14 a15 a16 a17 : Option Val} {dd i q tr fr br ur : Nat} {md : Bool} {W : List (List Int)} {ts : List (Nat × Nat)} {v w : List Nat}
theorem free_lt {x : Nat} (h : x ∈ freeL W v) : x < W.length := by
  unfold freeL at h
  exact List.mem_range.mp (List.mem_filter.mp h).1
theorem free_len : (freeL W v).length ≤ W.length := by
  have := List.length_filter_le (fun x => (best W v x).isNone) (List.range W.length)
  rw [List.length_range] at this
  exact this
theorem mid_len : (midF W.length (fs1 W v)).length ≤ W.length := by
  have := List.length_filter_le (fun x => decide (∀ y, y < W.length → fs1 W v x ≤ fs1 W v y)) (List.range W.length)
  rw [List.length_range] at this
  exact this
theorem free_ok (h : Ok dd W ts) : okD (.tuple ((zi (freeL W v)).map .int)) = true := by
  have hf := h.few
  have hl := free_len (W := W) (v := v)
  exact ok_nt (fun x hx => by have := free_lt hx; omega) (by omega)
theorem s9 (h : Ok dd W ts) (hv : v.length = W.length) (hu : S[ur]? = some (.lst false (nv (freeL W v)))) : ∃ S', ex (C (d + 4)) 200 (bnth LB 9) (E a2 a3 a4 a5 a6 (some (.ref ur)) (some (webV W.length ts)) a9 a10 a11 (some (.tup (nv v))) a13 a14 a15 a16 a17) S = some (.nx, (E a2 a3 a4 a5 a6 (some (.ref ur)) (some (webV W.length ts)) a9 a10 a11 (some (.tup (nv v))) a13 a14 a15 a16 a17), S') ∧ Kp S S' := by
  have hok := free_ok (v := v) h
  obtain ⟨S1, e1, k1⟩ := unbs (d := d) (S := S) h hv
  exact ⟨S1, ex_else (ev_cmp (ev_repr (ev_call (evs_cons rfl (evs_cons rfl evs_nil)) e1) dat_nt hok) (ev_repr (ev_bi (evs_cons rfl evs_nil) (tup_lst (k1 _ _ hu))) dat_nt hok) (ne_shown hok)) exs_nil, k1⟩
theorem s10 (h : Ok dd W ts) (hG : Good md W) (hv : v.length = W.length) (hu : S[ur]? = some (.lst false (nv (freeL W v)))) : ∃ S', ex (C (d + 4)) 200 (bnth LB 10) (E a2 a3 (some (.bl md)) a5 a6 (some (.ref ur)) (some (webV W.length ts)) a9 a10 a11 (some (.tup (nv v))) a13 a14 a15 a16 a17) S = some (.nx, (E a2 a3 (some (.bl md)) a5 a6 (some (.ref ur)) (some (webV W.length ts)) a9 a10 a11 (some (.tup (nv v))) a13 a14 a15 a16 a17), S') ∧ Kp S S' := by
  cases md with
  | false => exact ⟨S, ex_else (ev_and0 rfl) exs_nil, .refl _⟩
  | true =>
    obtain ⟨S1, e1, k1⟩ := mids (d := d) (S := S) h hv
    rw [← free_eq h.iso hG.bin (hG.med rfl) hv] at e1
    refine ⟨S1, ex_else (ev_and1 rfl (ev_cmp (ev_bi (evs_cons rfl evs_nil) (tup_lst hu)) (ev_call (evs_cons rfl (evs_cons rfl evs_nil)) e1) ?_)) exs_nil, k1⟩
    rw [ne_nt, decide_eq_true rfl]; rfl
theorem s11 (h : Ok dd W ts) (hv : v.length = W.length) (hu : S[ur]? = some (.lst false (nv (freeL W v)))) : ∃ S', ex (C (d + 4)) 200 (bnth LB 11) (E a2 a3 a4 a5 a6 (some (.ref ur)) (some (webV W.length ts)) a9 a10 a11 (some (.tup (nv v))) a13 a14 a15 a16 a17) S = some (.nx, (E a2 a3 a4 a5 a6 (some (.ref ur)) (some (webV W.length ts)) a9 a10 a11 (some (.tup (nv v))) a13 a14 a15 a16 a17), S') ∧ Kp S S' := by
  have hf := h.few
  have hml := mid_len (W := W) (v := v)
  obtain ⟨S1, e1, k1⟩ := mids (d := d) (S := S) h hv
  have hu1 := k1 _ _ hu
  obtain ⟨S2, e2, l2⟩ := lc_map (f := dTurn [6] (asg (C (d + 4)) (.slot 6)) (ev (C (d + 4)) (.cmp .notin (.slot 6) (.slot 7))) (ev (C (d + 4)) (.slot 6)) (E a2 a3 a4 a5 a6 (some (.ref ur)) (some (webV W.length ts)) a9 a10 a11 (some (.tup (nv v))) a13 a14 a15 a16 a17))
    (J := .seq (.t (nv (midF W.length (fs1 W v))))) (ws := midF W.length (fs1 W v)) (t := fun b : Nat => Val.int (b : Int)) (S := S1) (fun _ => none) its_t (by omega) (by
      intro x hx S' l
      have hm := free_mid hx
      have hu2 := l.get hu1
      rw [nv_zi] at hu2
      have t0 : inV (.int (x : Int)) (.ref ur) S' = some true := by
        rw [in_lst hu2, decide_eq_true (zi_mem.mpr hm)]
      have t1 : cmpV .notin (.int (x : Int)) (.ref ur) S' = some false := by
        show (inV (.int (x : Int)) (.ref ur) S').map (!·) = _
        rw [t0]; rfl
      have t : ev (C (d + 4)) (.cmp .notin (.slot 6) (.slot 7)) (E a2 a3 a4 a5 (some (.int (x : Int))) (some (.ref ur)) (some (webV W.length ts)) a9 a10 a11 (some (.tup (nv v))) a13 a14 a15 a16 a17) S' = some (.bl false, S') := ev_cmp rfl rfl t1
      exact ⟨S', turn_f (ρ1 := (E a2 a3 a4 a5 (some (.int (x : Int))) (some (.ref ur)) (some (webV W.length ts)) a9 a10 a11 (some (.tup (nv v))) a13 a14 a15 a16 a17)) rfl t, .refl _⟩)
  have en : (midF W.length (fs1 W v)).filterMap (fun _ => (none : Option Val)) = nv [] := List.filterMap_eq_nil_iff.mpr fun _ _ => rfl
  rw [en] at e2
  have t := ev_isnilN (cf := C (d + 4)) (S := S) (a := .lc (.slot 6) (.slot 6) (.ex (.call 5 (.cons (.slot 8) (.cons (.slot 12) .nil)))) (.cmp .notin (.slot 6) (.slot 7)) [6]) (ρ := (E a2 a3 a4 a5 a6 (some (.ref ur)) (some (webV W.length ts)) a9 a10 a11 (some (.tup (nv v))) a13 a14 a15 a16 a17)) (l := []) (ev_lc (evI_ex (ev_call (evs_cons rfl (evs_cons rfl evs_nil)) e1) rfl) (n := (midF W.length (fs1 W v)).length) (show (nv (midF W.length (fs1 W v))).length = _ from nv_len _) e2) get_last
  rw [decide_eq_true rfl] at t
  exact ⟨_, ex_else t exs_nil, k1.trans ((Kp.of l2).trans ((Kp.add _ _).trans (.add _ _)))⟩
def RB : B := CG.loopB (bnth LB 12)
def VB : B := CG.loopB (bnth RB 1)
theorem turn12 {x : Nat} (h : Ok dd W ts) (hG : Good md W) (hv : v.length = W.length) (hb : S[br]? = some (.lst false ((betL W v W.length).map oV))) (hr : S[fr]? = some (.lst false (nv (sumsL W v)))) (hx : x < W.length) :
    ∃ z16 S', exs (C (d + 4)) 200 RB (E a2 a3 (some (.bl md)) a5 (some (.int (x : Int))) a7 (some (webV W.length ts)) a9 (some (.int (W.length : Int))) a11 (some (.tup (nv v))) (some (.ref fr)) (some (.ref br)) a15 a16 a17) S = some (.nx, (E a2 a3 (some (.bl md)) a5 (some (.int (x : Int))) a7 (some (webV W.length ts)) a9 (some (.int (W.length : Int))) a11 (some (.tup (nv v))) (some (.ref fr)) (some (.ref br)) a15 z16 a17), S') ∧ Kp S S' := by
  have hf := h.few
  have i0 : ex (C (d + 4)) 200 (bnth RB 0) (E a2 a3 (some (.bl md)) a5 (some (.int (x : Int))) a7 (some (webV W.length ts)) a9 (some (.int (W.length : Int))) a11 (some (.tup (nv v))) (some (.ref fr)) (some (.ref br)) a15 a16 a17) S = some (.nx, (E a2 a3 (some (.bl md)) a5 (some (.int (x : Int))) a7 (some (webV W.length ts)) a9 (some (.int (W.length : Int))) a11 (some (.tup (nv v))) (some (.ref fr)) (some (.ref br)) a15 (some (.ref S.length)) a17), S ++ [.lst false (nv [x])]) := ex_asg (ev_lst (evs_cons rfl evs_nil) (show 1 ≤ 1000000 by decide)) rfl
  have gA : (S ++ [Rf.Obj.lst false (nv [x])])[S.length]? = some (.lst false (nv [x])) := get_last
  have bz : ∀ {z : Nat} {pre : List Nat} {S' : Store}, z < W.length → Kp S S' → S'[S.length]? = some (.lst false (nv (pre ++ [z]))) → ev (C (d + 4)) (.idx (.slot 14) (.idx (.slot 16) (.neg (.k (.int 1))))) (E a2 a3 (some (.bl md)) a5 (some (.int (x : Int))) a7 (some (webV W.length ts)) a9 (some (.int (W.length : Int))) a11 (some (.tup (nv v))) (some (.ref fr)) (some (.ref br)) a15 (some (.ref S.length)) a17) S' = some (oV (best W v z), S') := by
    intro z pre S' hz k g
    exact ev_idx rfl (ev_idx rfl rfl (last_nv g (by simp))) (bet_at hz (k _ _ hb))
  obtain ⟨ρ', S4, e4, rfl, k4, R, g4, hD⟩ := while_meas (test := ev (C (d + 4)) (.cmp .isnot (.idx (.slot 14) (.idx (.slot 16) (.neg (.k (.int 1))))) (.k .non))) (body := exs (C (d + 4)) 200 VB) (fu := 200) (n := cnt W v x) (ρ := (E a2 a3 (some (.bl md)) a5 (some (.int (x : Int))) a7 (some (webV W.length ts)) a9 (some (.int (W.length : Int))) a11 (some (.tup (nv v))) (some (.ref fr)) (some (.ref br)) a15 (some (.ref S.length)) a17)) (S := S ++ [.lst false (nv [x])])
    (fun m ρ S' => ∃ (z : Nat) (pre : List Nat), ρ = (E a2 a3 (some (.bl md)) a5 (some (.int (x : Int))) a7 (some (webV W.length ts)) a9 (some (.int (W.length : Int))) a11 (some (.tup (nv v))) (some (.ref fr)) (some (.ref br)) a15 (some (.ref S.length)) a17) ∧ z < W.length ∧ Kp S S' ∧ S'[S.length]? = some (.lst false (nv (pre ++ [z]))) ∧ (∀ l, Down W v z l → Down W v x (pre ++ l)) ∧ m = cnt W v z ∧ pre.length + cnt W v z ≤ W.length)
    (fun ρ S' => ρ = (E a2 a3 (some (.bl md)) a5 (some (.int (x : Int))) a7 (some (webV W.length ts)) a9 (some (.int (W.length : Int))) a11 (some (.tup (nv v))) (some (.ref fr)) (some (.ref br)) a15 (some (.ref S.length)) a17) ∧ Kp S S' ∧ ∃ R, S'[S.length]? = some (.lst false (nv R)) ∧ Down W v x R)
    ⟨x, [], rfl, hx, Kp.add _ _, gA, fun l h => h, rfl, by have := cnt_le W v x; simp; omega⟩ (by have := cnt_le W v x; omega) (by
      rintro m ρ S' ⟨z, pre, rfl, hz, kp, g, hd, rfl, hpl⟩
      have t0 := bz hz kp g
      have t : ev (C (d + 4)) (.cmp .isnot (.idx (.slot 14) (.idx (.slot 16) (.neg (.k (.int 1))))) (.k .non)) (E a2 a3 (some (.bl md)) a5 (some (.int (x : Int))) a7 (some (webV W.length ts)) a9 (some (.int (W.length : Int))) a11 (some (.tup (nv v))) (some (.ref fr)) (some (.ref br)) a15 (some (.ref S.length)) a17) S' = some (.bl (best W v z).isSome, S') := ev_cmp t0 rfl isnot_o
      cases hb : best W v z with
      | none =>
        rw [hb] at t
        exact .inl ⟨S', t, rfl, kp, _, g, hd [z] (.stop hb)⟩
      | some y =>
        rw [hb] at t t0
        refine .inr ⟨S', t, ?_⟩
        obtain ⟨hy, _, _⟩ := best_some hb
        have hc := cnt_lt hb
        have happ : mtV .append (.ref S.length) [.int (y : Int)] S' = some (.non, S'.set S.length (.lst false (nv ((pre ++ [z]) ++ [y])))) := by
          rw [app_lst g (by rw [nv_len, List.length_append, List.length_singleton]; omega)]
          simp [nv]
        refine ⟨_, _, exs_nx (ex_ex (ev_mt rfl (rcv_lst g) (evs_cons t0 evs_nil) happ)) exs_nil, cnt W v y, hc, y, pre ++ [z], rfl, hy, kp.set (Nat.le_refl _), set_at g, fun l hl => ?_, rfl, ?_⟩
        · have := hd (z :: l) (.step hb hl)
          rwa [List.append_assoc]
        · rw [List.length_append, List.length_singleton]; omega)
  have i1 : ex (C (d + 4)) 200 (bnth RB 1) (E a2 a3 (some (.bl md)) a5 (some (.int (x : Int))) a7 (some (webV W.length ts)) a9 (some (.int (W.length : Int))) a11 (some (.tup (nv v))) (some (.ref fr)) (some (.ref br)) a15 (some (.ref S.length)) a17) (S ++ [.lst false (nv [x])]) = some (.nx, (E a2 a3 (some (.bl md)) a5 (some (.int (x : Int))) a7 (some (webV W.length ts)) a9 (some (.int (W.length : Int))) a11 (some (.tup (nv v))) (some (.ref fr)) (some (.ref br)) a15 (some (.ref S.length)) a17), S4) := ex_whl e4
  generalize S.length = rr at i0 i1 g4
  obtain ⟨R2, S5, e5, k5, hD2⟩ := downs (d := d) (S := S4) h hv hx
  rw [← hD.uniq hD2] at e5
  obtain ⟨hR, z, hz, hzl, hbz⟩ := hD.last hx
  have hlen := hD.len
  have hcl := cnt_le W v x
  have hok : okD (.tuple ((zi R).map .int)) = true := ok_nt (fun y hy => by have := hR y hy; omega) (by omega)
  have g5 := k5 _ _ g4
  have c1 : ev (C (d + 4)) (.cmp .ne (.bi .repr (.cons (.call 8 (.cons (.slot 8) (.cons (.slot 12) (.cons (.slot 6) .nil)))) .nil)) (.bi .repr (.cons (.bi .tuple (.cons (.slot 16) .nil)) .nil))) (E a2 a3 (some (.bl md)) a5 (some (.int (x : Int))) a7 (some (webV W.length ts)) a9 (some (.int (W.length : Int))) a11 (some (.tup (nv v))) (some (.ref fr)) (some (.ref br)) a15 (some (.ref rr)) a17) S4 = some (.bl false, S5) :=
    ev_cmp (ev_repr (ev_call (evs_cons rfl (evs_cons rfl (evs_cons rfl evs_nil))) e5) dat_nt hok) (ev_repr (ev_bi (evs_cons rfl evs_nil) (tup_lst g5)) dat_nt hok) (ne_shown hok)
  have hr5 := k5 _ _ (k4 _ _ hr)
  have c2 : ev (C (d + 4)) (.and (.slot 4) (.cmp .ne (.idx (.slot 13) (.idx (.slot 16) (.neg (.k (.int 1))))) (.bi .min (.cons (.slot 13) .nil)))) (E a2 a3 (some (.bl md)) a5 (some (.int (x : Int))) a7 (some (webV W.length ts)) a9 (some (.int (W.length : Int))) a11 (some (.tup (nv v))) (some (.ref fr)) (some (.ref br)) a15 (some (.ref rr)) a17) S5 = some (.bl false, S5) := by
    cases md with
    | false => exact ev_and0 rfl
    | true =>
      obtain ⟨a, l, hal, hm1, hm2⟩ := minZ_of (g := fun y => fs1 W v y) h.pos
      have hleast := free_least h.iso hG.bin (hG.med rfl) hv hzl hbz
      have hmin : ((fs1 W v z : Nat) : Int) = minZ a l := (min_is (g := fun y => fs1 W v y) hzl hm1 hm2).mpr hleast
      have gm : S5[fr]? = some (.lst false ((a :: l).map .int)) := by
        rw [← hal]
        rw [nv_zi] at hr5
        exact hr5
      refine ev_and1 rfl (ev_cmp (ev_idx rfl (ev_idx rfl rfl (last_nv g5 hz)) (sums_ixl hr5 hzl)) (ev_bi (evs_cons rfl evs_nil) (min_lst gm)) ?_)
      rw [ne_int, hmin, decide_eq_true rfl]; rfl
  exact ⟨some (.ref rr), S5, exs_nx i0 (exs_nx i1 (exs_nx (ex_else (ev_or0 c1 c2) exs_nil) exs_nil)), k4.trans k5⟩
theorem s12 (h : Ok dd W ts) (hG : Good md W) (hv : v.length = W.length) (hb : S[br]? = some (.lst false ((betL W v W.length).map oV))) (hr : S[fr]? = some (.lst false (nv (sumsL W v)))) : ∃ z6 z16 S', ex (C (d + 4)) 200 (bnth LB 12) (E a2 a3 (some (.bl md)) a5 a6 a7 (some (webV W.length ts)) a9 (some (.int (W.length : Int))) a11 (some (.tup (nv v))) (some (.ref fr)) (some (.ref br)) a15 a16 a17) S = some (.nx, (E a2 a3 (some (.bl md)) a5 z6 a7 (some (webV W.length ts)) a9 (some (.int (W.length : Int))) a11 (some (.tup (nv v))) (some (.ref fr)) (some (.ref br)) a15 z16 a17), S') ∧ Kp S S' := by
  have hf := h.few
  obtain ⟨ρ', S1, e1, z6, z16, rfl, k1⟩ := loop_inv (set := asg (C (d + 4)) (.slot 6)) (body := exs (C (d + 4)) 200 RB) (J := .rng 0 1 W.length) (vs := (List.range W.length).map fun i : Nat => .int (0 + (i : Int))) (ρ := (E a2 a3 (some (.bl md)) a5 a6 a7 (some (webV W.length ts)) a9 (some (.int (W.length : Int))) a11 (some (.tup (nv v))) (some (.ref fr)) (some (.ref br)) a15 a16 a17)) (S := S)
    (fun i ρ S' => ∃ z6 z16, ρ = (E a2 a3 (some (.bl md)) a5 z6 a7 (some (webV W.length ts)) a9 (some (.int (W.length : Int))) a11 (some (.tup (nv v))) (some (.ref fr)) (some (.ref br)) a15 z16 a17) ∧ Kp S S') ⟨a6, a16, rfl, .refl _⟩ (fun i ρ S' _ => its_rng S' (.refl _) i) (by
      rintro x y ρ S' ⟨z6, z16, rfl, k⟩ hy
      have hx : x < W.length := by
        have := (List.getElem?_eq_some_iff.mp hy).1
        simpa using this
      have hy' : y = .int (x : Nat) := by
        rw [List.getElem?_map, List.getElem?_range hx] at hy
        rw [← Option.some.inj hy]
        show Val.int (0 + (x : Int)) = _
        rw [Int.zero_add]
      subst hy'
      obtain ⟨z, S2, e2, k2⟩ := turn12 (d := d) (S := S') (a2 := a2) (a3 := a3) (a5 := a5) (a7 := a7) (a9 := a9) (a11 := a11) (a15 := a15) (a16 := z16) (a17 := a17) h hG hv (k _ _ hb) (k _ _ hr) hx
      exact ⟨_, _, rfl, _, _, e2, _, _, rfl, k.trans k2⟩)
  exact ⟨z6, z16, S1, ex_loop (evI_rng1 (j := (W.length : Int)) (evs_cons rfl evs_nil) (rng_small (by omega))) (n := W.length) (Int.toNat_natCast _) (by rw [List.length_map, List.length_range] at e1; exact e1), k1⟩
theorem s13 (h : Ok dd W ts) : ex (C (d + 4)) 200 (bnth LB 13) (E a2 a3 a4 a5 a6 a7 (some (webV W.length ts)) a9 a10 (some (.str (webD W.length ts).shown)) a12 a13 a14 a15 a16 a17) S = some (.nx, (E a2 a3 a4 a5 a6 a7 (some (webV W.length ts)) a9 a10 (some (.str (webD W.length ts).shown)) a12 a13 a14 a15 a16 a17), S) :=
  ex_else (ev_cmp (ev_repr rfl dat_web h.shown) rfl (ne_shown h.shown)) exs_nil
end K48

namespace K48
open Rf Cm CG
theorem lap {d : Nat} {S : Store} {b3 b4 b5 b6 b7 b8 b9 b10 b11 b12 b13 b14 b15 b16 b17 : Option Val} {i : Nat} (hs : SrcOk S) (hi : i < 5) : ∃ c3 c4 c5 c6 c7 c8 c9 c10 c11 c12 c13 c14 c15 c16 c17 S', exs (C (d + 4)) 200 LB (E (some (.int (i : Int))) b3 b4 b5 b6 b7 b8 b9 b10 b11 b12 b13 b14 b15 b16 b17) S = some (.nx, E (some (.int (i : Int))) c3 c4 c5 c6 c7 c8 c9 c10 c11 c12 c13 c14 c15 c16 c17, S') ∧ SrcOk S' := by
  obtain ⟨md, S0, e0, f0⟩ := s0 (d := d) (S := S) (a2 := some (.int (i : Int))) (a3 := b3) (a4 := b4) (a5 := b5) (a6 := b6) (a7 := b7) (a8 := b8) (a9 := b9) (a10 := b10) (a11 := b11) (a12 := b12) (a13 := b13) (a14 := b14) (a15 := b15) (a16 := b16) (a17 := b17) hs
  obtain ⟨q, dd, W, S1, e1, f1, hL, hd, hG⟩ := s1 (d := d) (S := S0) (md := md) (a3 := b3) (a5 := b5) (a6 := b6) (a7 := b7) (a8 := b8) (a9 := b9) (a10 := b10) (a11 := b11) (a12 := b12) (a13 := b13) (a14 := b14) (a15 := b15) (a16 := b16) (a17 := b17) f0.src hi
  obtain ⟨ts, tr, S2, e2, l2, h, hN⟩ := s2 (d := d) (S := S1) (a2 := some (.int (i : Int))) (a3 := b3) (a4 := some (.bl md)) (a6 := b6) (a7 := b7) (a8 := b8) (a9 := b9) (a10 := b10) (a11 := b11) (a12 := b12) (a13 := b13) (a14 := b14) (a15 := b15) (a16 := b16) (a17 := b17) hL hd
  have f2 := (f0.trans f1).le2 l2
  have h4 := src_len4 f1.src
  obtain ⟨v, S3, e3, f3, hv⟩ := s3 (d := d) (S := S2) (a2 := some (.int (i : Int))) (a3 := b3) (a4 := some (.bl md)) (a5 := some (.ref q)) (a6 := b6) (a7 := b7) (a9 := some (.ref tr)) (a10 := b10) (a11 := b11) (a12 := b12) (a13 := b13) (a14 := b14) (a15 := b15) (a16 := b16) (a17 := b17) h f2.src
  have hN3 := (hN.fr h4 f3).ok
  obtain ⟨fr, br, SB, S4, e4, kB, k4, hr, hbl, hb⟩ := s4 (d := d) (S := S3) (a2 := some (.int (i : Int))) (a3 := b3) (a4 := some (.bl md)) (a5 := some (.ref q)) (a6 := b6) (a7 := b7) (a8 := some (webV W.length ts)) (a10 := some (.int (W.length : Int))) (a11 := some (.str (webD W.length ts).shown)) (a13 := b13) (a14 := b14) (a15 := b15) (a16 := b16) (a17 := b17) h hv hN3
  obtain ⟨S5, e5, k5⟩ := s5 (d := d) (S := S4) (a2 := some (.int (i : Int))) (a3 := b3) (a4 := some (.bl md)) (a5 := some (.ref q)) (a6 := b6) (a7 := b7) (a9 := some (.ref tr)) (a10 := some (.int (W.length : Int))) (a11 := some (.str (webD W.length ts).shown)) (a14 := some (.ref br)) (a15 := b15) (a16 := b16) (a17 := b17) h hv (k4 _ _ hr)
  obtain ⟨z6, z15, S6, e6, k6, g6⟩ := s6 (d := d) (S := S5) (SB := SB) (a2 := some (.int (i : Int))) (a3 := b3) (a4 := some (.bl md)) (a5 := some (.ref q)) (a6 := b6) (a7 := b7) (a8 := some (webV W.length ts)) (a11 := some (.str (webD W.length ts).shown)) (a12 := some (.tup (nv v))) (a15 := b15) (a16 := b16) (a17 := b17) h (hN3.kp kB) hr (k4.trans k5) (k5 _ _ hb) hbl
  obtain ⟨S7, e7, k7⟩ := s7 (d := d) (S := S6) (a2 := some (.int (i : Int))) (a3 := b3) (a4 := some (.bl md)) (a5 := some (.ref q)) (a6 := z6) (a7 := b7) (a9 := some (.ref tr)) (a11 := some (.str (webD W.length ts).shown)) (a13 := some (.ref fr)) (a15 := z15) (a16 := b16) (a17 := b17) h hv g6
  obtain ⟨ur, S8, e8, l8, hu⟩ := s8 (d := d) (S := S7) (v := v) (a2 := some (.int (i : Int))) (a3 := b3) (a4 := some (.bl md)) (a5 := some (.ref q)) (a6 := z6) (a7 := b7) (a8 := some (webV W.length ts)) (a9 := some (.ref tr)) (a11 := some (.str (webD W.length ts).shown)) (a12 := some (.tup (nv v))) (a13 := some (.ref fr)) (a15 := z15) (a16 := b16) (a17 := b17) h (k7 _ _ g6)
  obtain ⟨S9, e9, k9⟩ := s9 (d := d) (S := S8) (a2 := some (.int (i : Int))) (a3 := b3) (a4 := some (.bl md)) (a5 := some (.ref q)) (a6 := z6) (a9 := some (.ref tr)) (a10 := some (.int (W.length : Int))) (a11 := some (.str (webD W.length ts).shown)) (a13 := some (.ref fr)) (a14 := some (.ref br)) (a15 := z15) (a16 := b16) (a17 := b17) h hv hu
  obtain ⟨S10, e10, k10⟩ := s10 (d := d) (S := S9) (a2 := some (.int (i : Int))) (a3 := b3) (a5 := some (.ref q)) (a6 := z6) (a9 := some (.ref tr)) (a10 := some (.int (W.length : Int))) (a11 := some (.str (webD W.length ts).shown)) (a13 := some (.ref fr)) (a14 := some (.ref br)) (a15 := z15) (a16 := b16) (a17 := b17) h hG hv (k9 _ _ hu)
  obtain ⟨S11, e11, k11⟩ := s11 (d := d) (S := S10) (a2 := some (.int (i : Int))) (a3 := b3) (a4 := some (.bl md)) (a5 := some (.ref q)) (a6 := z6) (a9 := some (.ref tr)) (a10 := some (.int (W.length : Int))) (a11 := some (.str (webD W.length ts).shown)) (a13 := some (.ref fr)) (a14 := some (.ref br)) (a15 := z15) (a16 := b16) (a17 := b17) h hv (k10 _ _ (k9 _ _ hu))
  have k711 := k7.trans ((Kp.of l8).trans (k9.trans (k10.trans k11)))
  obtain ⟨y6, z16, S12, e12, k12⟩ := s12 (d := d) (S := S11) (a2 := some (.int (i : Int))) (a3 := b3) (a5 := some (.ref q)) (a6 := z6) (a7 := some (.ref ur)) (a9 := some (.ref tr)) (a11 := some (.str (webD W.length ts).shown)) (a15 := z15) (a16 := b16) (a17 := b17) h hG hv (k711 _ _ g6) (k711 _ _ (k6 _ _ hr))
  have e13 := s13 (d := d) (S := S12) (a2 := some (.int (i : Int))) (a3 := b3) (a4 := some (.bl md)) (a5 := some (.ref q)) (a6 := y6) (a7 := some (.ref ur)) (a9 := some (.ref tr)) (a10 := some (.int (W.length : Int))) (a12 := some (.tup (nv v))) (a13 := some (.ref fr)) (a14 := some (.ref br)) (a15 := z15) (a16 := z16) (a17 := b17) h
  have fz := (f2.trans f3).kp2 (kB.trans (k6.trans (k711.trans k12)))
  exact ⟨_, _, _, _, _, _, _, _, _, _, _, _, _, _, _, S12, exs_nx e0 (exs_nx e1 (exs_nx e2 (exs_nx e3 (exs_nx e4 (exs_nx e5 (exs_nx e6 (exs_nx e7 (exs_nx e8 (exs_nx e9 (exs_nx e10 (exs_nx e11 (exs_nx e12 (exs_nx e13 exs_nil))))))))))))), fz.src⟩
/-! the last line -/
def t6 : List (Nat × Nat) := [(0, 1), (0, 5), (1, 2), (2, 3), (3, 4), (4, 5)]
theorem web6 : WebOf W6 t6 := by
  refine ⟨fun t => ?_, by decide, by decide⟩
  constructor
  · intro h
    have : ∀ t ∈ t6, t.1 < t.2 ∧ t.2 < W6.length ∧ adjW W6 t.1 t.2 = true := by decide
    exact this t h
  · rintro ⟨h1, h2, h3⟩
    obtain ⟨a, b⟩ := t
    dsimp only at h1 h2 h3
    have all : ∀ b ∈ List.range 6, ∀ a ∈ List.range b, adjW W6 a b = true → (a, b) ∈ t6 := by decide
    exact all b (List.mem_range.mpr h2) a (List.mem_range.mpr h1) h3
theorem best_nil {W : List (List Int)} {v : List Nat} {x : Nat} : (best W v x).isNone = decide (cand W v x = []) := by
  unfold best pairsC
  cases cand W v x <;> rfl
theorem free6 : freeL W6 [3, 0, 2, 1, 2, 1] = [0, 2, 4] := by
  have e : freeL W6 [3, 0, 2, 1, 2, 1] = (List.range W6.length).filter fun x => decide (cand W6 [3, 0, 2, 1, 2, 1] x = []) := by
    unfold freeL
    exact List.filter_congr fun x _ => best_nil
  rw [e]
  decide
theorem last {d : Nat} {S : Store} {c2 : Option Val} {c3 : Option Val} {c4 : Option Val} {c5 : Option Val} {c6 : Option Val} {c7 : Option Val} {c8 : Option Val} {c9 : Option Val} {c10 : Option Val} {c11 : Option Val} {c12 : Option Val} {c13 : Option Val} {c14 : Option Val} {c15 : Option Val} {c16 : Option Val} {c17 : Option Val} : ∃ S', exs (C (d + 4)) 200 (.cons (bnth D22.body 2) (.cons (bnth D22.body 3) .nil)) (E c2 c3 c4 c5 c6 c7 c8 c9 c10 c11 c12 c13 c14 c15 c16 c17) S = some (.ret (.bl true), E c2 (some (webV W6.length t6)) c4 c5 c6 c7 c8 c9 c10 c11 c12 c13 c14 c15 c16 c17, S') := by
  have h : Ok 3 W6 t6 := ⟨iso6, web6, by decide, by decide, by decide⟩
  obtain ⟨S1, e1, k1⟩ := unbs (d := d) (S := S) h (v := [3, 0, 2, 1, 2, 1]) rfl
  rw [free6] at e1
  obtain ⟨S2, e2, k2⟩ := mids (d := d) (S := S1) h (v := [3, 0, 2, 1, 2, 1]) rfl
  have hm : midF W6.length (fs1 W6 [3, 0, 2, 1, 2, 1]) = [0, 4] := by decide
  rw [hm] at e2
  have t2 : ∀ (x y : Int) (ρ : Rf.Env) (S : Store), ev (C (d + 4)) (.tup (.cons (.k (.int x)) (.cons (.k (.int y)) .nil))) ρ S = some (.tup [.int x, .int y], S) := fun x y ρ S => ev_tup (evs_cons rfl (evs_cons rfl evs_nil)) (show 2 ≤ 1000000 by decide)
  have ew : ∀ ρ, ev (C (d + 4)) (.tup (.cons (.k (.int 6)) (.cons (.tup (.cons (.tup (.cons (.k (.int 0)) (.cons (.k (.int 1)) .nil))) (.cons (.tup (.cons (.k (.int 0)) (.cons (.k (.int 5)) .nil))) (.cons (.tup (.cons (.k (.int 1)) (.cons (.k (.int 2)) .nil))) (.cons (.tup (.cons (.k (.int 2)) (.cons (.k (.int 3)) .nil))) (.cons (.tup (.cons (.k (.int 3)) (.cons (.k (.int 4)) .nil))) (.cons (.tup (.cons (.k (.int 4)) (.cons (.k (.int 5)) .nil))) .nil))))))) .nil))) ρ S = some (webV W6.length t6, S) := fun ρ =>
    ev_tup (vs := [.int 6, .tup (t6.map tieV)]) (evs_cons rfl (evs_cons (ev_tup (vs := t6.map tieV) (evs_cons (t2 0 1 _ _) (evs_cons (t2 0 5 _ _) (evs_cons (t2 1 2 _ _) (evs_cons (t2 2 3 _ _) (evs_cons (t2 3 4 _ _) (evs_cons (t2 4 5 _ _) evs_nil)))))) (show 6 ≤ 1000000 by decide)) evs_nil)) (show 2 ≤ 1000000 by decide)
  have ev1 : ∀ ρ S, ev (C (d + 4)) (.tup (.cons (.k (.int 3)) (.cons (.k (.int 0)) (.cons (.k (.int 2)) (.cons (.k (.int 1)) (.cons (.k (.int 2)) (.cons (.k (.int 1)) .nil))))))) ρ S = some (.tup (nv [3, 0, 2, 1, 2, 1]), S) := fun ρ S => ev_tup (evs_cons rfl (evs_cons rfl (evs_cons rfl (evs_cons rfl (evs_cons rfl (evs_cons rfl evs_nil)))))) (show 6 ≤ 1000000 by decide)
  have ev2 : ∀ ρ, ev (C (d + 4)) (.tup (.cons (.k (.int 0)) (.cons (.k (.int 2)) (.cons (.k (.int 4)) .nil)))) ρ S1 = some (.tup (nv [0, 2, 4]), S1) := fun ρ => ev_tup (evs_cons rfl (evs_cons rfl (evs_cons rfl evs_nil))) (show 3 ≤ 1000000 by decide)
  exact ⟨S2, exs_nx (ex_asg (ew _) rfl) (exs_ret (ex_ret (ev_and1 (ev_cmp (ev_call (evs_cons rfl (evs_cons (ev1 _ _) evs_nil)) e1) (ev2 _) (by rw [eq_nt, decide_eq_true rfl])) (ev_cmp (ev_call (evs_cons rfl (evs_cons (ev1 _ _) evs_nil)) e2) (show _ = some (.tup (nv [0, 4]), S2) from t2 0 4 _ _) (by rw [eq_nt, decide_eq_true rfl])))))⟩
theorem law_run (ns : List Int) (hn : ns.length ≤ 63) : ∃ S', callF tbl 200 (4 + 1) 22 [.ref 0] [.lst true (ns.map .int)] = some (.bl true, S') := by
  obtain ⟨S0, e0, hs0⟩ := c_source (tbl := tbl) (f := 10) rfl (d := 3) hn
  have i0 : ex (C 4) 200 (bnth D22.body 0) (startE D22 [.ref 0]) [.lst true (ns.map .int)] = some (.nx, E none none none none none none none none none none none none none none none none, S0) := ex_asg (ev_call (evs_cons rfl evs_nil) e0) rfl
  obtain ⟨ρ', S1, e1, c2, c3, c4, c5, c6, c7, c8, c9, c10, c11, c12, c13, c14, c15, c16, c17, rfl, s1⟩ := loop_inv (set := asg (C 4) (.slot 2)) (body := exs (C 4) 200 LB) (J := .rng 0 1 5) (vs := (List.range 5).map fun i : Nat => .int (0 + (i : Int))) (ρ := E none none none none none none none none none none none none none none none none) (S := S0)
    (fun i ρ S' => ∃ c2 c3 c4 c5 c6 c7 c8 c9 c10 c11 c12 c13 c14 c15 c16 c17, ρ = E c2 c3 c4 c5 c6 c7 c8 c9 c10 c11 c12 c13 c14 c15 c16 c17 ∧ SrcOk S') ⟨_, _, _, _, _, _, _, _, _, _, _, _, _, _, _, _, rfl, hs0⟩ (fun i ρ S' _ => its_rng S' (.refl _) i) (by
      rintro i v ρ S' ⟨c2, c3, c4, c5, c6, c7, c8, c9, c10, c11, c12, c13, c14, c15, c16, c17, rfl, s⟩ hv
      have hi : i < 5 := by
        have := (List.getElem?_eq_some_iff.mp hv).1
        simpa using this
      have hv' : v = .int (i : Nat) := by
        rw [List.getElem?_map, List.getElem?_range hi] at hv
        rw [← Option.some.inj hv]
        show Val.int (0 + (i : Int)) = _
        rw [Int.zero_add]
      subst hv'
      obtain ⟨x3, x4, x5, x6, x7, x8, x9, x10, x11, x12, x13, x14, x15, x16, x17, S2, e2, s2⟩ := lap (d := 0) (b3 := c3) (b4 := c4) (b5 := c5) (b6 := c6) (b7 := c7) (b8 := c8) (b9 := c9) (b10 := c10) (b11 := c11) (b12 := c12) (b13 := c13) (b14 := c14) (b15 := c15) (b16 := c16) (b17 := c17) s hi
      exact ⟨_, _, rfl, _, _, e2, _, _, _, _, _, _, _, _, _, _, _, _, _, _, _, _, rfl, s2⟩)
  have i1 : ex (C 4) 200 (bnth D22.body 1) (E none none none none none none none none none none none none none none none none) S0 = some (.nx, E c2 c3 c4 c5 c6 c7 c8 c9 c10 c11 c12 c13 c14 c15 c16 c17, S1) := ex_loop rfl rfl e1
  obtain ⟨S2, i2⟩ := last (d := 0) (S := S1) (c2 := c2) (c3 := c3) (c4 := c4) (c5 := c5) (c6 := c6) (c7 := c7) (c8 := c8) (c9 := c9) (c10 := c10) (c11 := c11) (c12 := c12) (c13 := c13) (c14 := c14) (c15 := c15) (c16 := c16) (c17 := c17)
  exact ⟨S2, (callF_at (F := D22) rfl rfl).trans (run_ret (exs_nx i0 (exs_nx i1 i2)))⟩
end K48

namespace K48
open PySem PySem.Spec PyProof.Rows L2 Rf
theorem all_mk {K : PySem.W.Frag} {h : Heap} {mg : Str → Option Value} (X : K.In h) (G : h.Ns mainGlobals mg) {f0 f1 f2 f3 f4 f5 f6 f7 f8 f9 f10 f11 f12 f13 f14 f15 f16 f17 f18 f19 f20 f21 f22 : Addr}
    {od0 an0 od1 an1 od2 an2 od3 an3 od4 an4 od5 an5 od6 an6 od7 an7 od8 an8 od9 an9 od10 an10 od11 an11 od12 an12 od13 an13 od14 an14 od15 an15 od16 an16 od17 an17 od18 an18 od19 an19 od20 an20 od21 an21 od22 an22 : Option Addr} {sl0 sl1 sl2 sl3 sl4 sl5 sl6 sl7 sl8 sl9 sl10 sl11 sl12 sl13 sl14 sl15 sl16 sl17 sl18 sl19 sl20 sl21 sl22 : Array (Option Value)}
    {oc0 kV0 dc0 pm0 cd0 ct0 oc1 kV1 dc1 pm1 cd1 ct1 oc2 kV2 dc2 pm2 cd2 ct2 oc3 kV3 dc3 pm3 cd3 ct3 oc4 kV4 dc4 pm4 cd4 ct4 oc5 kV5 dc5 pm5 cd5 ct5 oc6 kV6 dc6 pm6 cd6 ct6 oc7 kV7 dc7 pm7 cd7 ct7 oc8 kV8 dc8 pm8 cd8 ct8 oc9 kV9 dc9 pm9 cd9 ct9 oc10 kV10 dc10 pm10 cd10 ct10 oc11 kV11 dc11 pm11 cd11 ct11 oc12 kV12 dc12 pm12 cd12 ct12 oc13 kV13 dc13 pm13 cd13 ct13 oc14 kV14 dc14 pm14 cd14 ct14 oc15 kV15 dc15 pm15 cd15 ct15 oc16 kV16 dc16 pm16 cd16 ct16 oc17 kV17 dc17 pm17 cd17 ct17 oc18 kV18 dc18 pm18 cd18 ct18 oc19 kV19 dc19 pm19 cd19 ct19 oc20 kV20 dc20 pm20 cd20 ct20 oc21 kV21 dc21 pm21 cd21 ct21 oc22 kV22 dc22 pm22 cd22 ct22 : Value}
    (a0 : PySem.W.nsIn K mainGlobals "neighbours_of" = some (some (.ref f0))) (l0 : K.lookup f0 = some ⟨oc0, od0, .func (PySem.W.fnOf "neighbours_of" "neighbours_of" (defArgs (topS 1)) (defBody (topS 1)) (defScope (topS 1)) .none kV0 dc0 pm0 an0 cd0 ct0), sl0⟩) (c0 : PySem.W.codeIn K cd0 "neighbours_of" = true) (k0 : PySem.W.keepIn K (.ref f0) = true)
    (a1 : PySem.W.nsIn K mainGlobals "distance_row" = some (some (.ref f1))) (l1 : K.lookup f1 = some ⟨oc1, od1, .func (PySem.W.fnOf "distance_row" "distance_row" (defArgs (topS 2)) (defBody (topS 2)) (defScope (topS 2)) .none kV1 dc1 pm1 an1 cd1 ct1), sl1⟩) (c1 : PySem.W.codeIn K cd1 "distance_row" = true) (k1 : PySem.W.keepIn K (.ref f1) = true)
    (a2 : PySem.W.nsIn K mainGlobals "distances_of" = some (some (.ref f2))) (l2 : K.lookup f2 = some ⟨oc2, od2, .func (PySem.W.fnOf "distances_of" "distances_of" (defArgs (topS 3)) (defBody (topS 3)) (defScope (topS 3)) .none kV2 dc2 pm2 an2 cd2 ct2), sl2⟩) (c2 : PySem.W.codeIn K cd2 "distances_of" = true) (k2 : PySem.W.keepIn K (.ref f2) = true)
    (a3 : PySem.W.nsIn K mainGlobals "far_sum_in" = some (some (.ref f3))) (l3 : K.lookup f3 = some ⟨oc3, od3, .func (PySem.W.fnOf "far_sum_in" "far_sum_in" (defArgs (topS 5)) (defBody (topS 5)) (defScope (topS 5)) .none kV3 dc3 pm3 an3 cd3 ct3), sl3⟩) (c3 : PySem.W.codeIn K cd3 "far_sum_in" = true) (k3 : PySem.W.keepIn K (.ref f3) = true)
    (a4 : PySem.W.nsIn K mainGlobals "far_sums" = some (some (.ref f4))) (l4 : K.lookup f4 = some ⟨oc4, od4, .func (PySem.W.fnOf "far_sums" "far_sums" (defArgs (topS 6)) (defBody (topS 6)) (defScope (topS 6)) .none kV4 dc4 pm4 an4 cd4 ct4), sl4⟩) (c4 : PySem.W.codeIn K cd4 "far_sums" = true) (k4 : PySem.W.keepIn K (.ref f4) = true)
    (a5 : PySem.W.nsIn K mainGlobals "middles_of" = some (some (.ref f5))) (l5 : K.lookup f5 = some ⟨oc5, od5, .func (PySem.W.fnOf "middles_of" "middles_of" (defArgs (topS 7)) (defBody (topS 7)) (defScope (topS 7)) .none kV5 dc5 pm5 an5 cd5 ct5), sl5⟩) (c5 : PySem.W.codeIn K cd5 "middles_of" = true) (k5 : PySem.W.keepIn K (.ref f5) = true)
    (a6 : PySem.W.nsIn K mainGlobals "better_in" = some (some (.ref f6))) (l6 : K.lookup f6 = some ⟨oc6, od6, .func (PySem.W.fnOf "better_in" "better_in" (defArgs (topS 9)) (defBody (topS 9)) (defScope (topS 9)) .none kV6 dc6 pm6 an6 cd6 ct6), sl6⟩) (c6 : PySem.W.codeIn K cd6 "better_in" = true) (k6 : PySem.W.keepIn K (.ref f6) = true)
    (a7 : PySem.W.nsIn K mainGlobals "better_place" = some (some (.ref f7))) (l7 : K.lookup f7 = some ⟨oc7, od7, .func (PySem.W.fnOf "better_place" "better_place" (defArgs (topS 10)) (defBody (topS 10)) (defScope (topS 10)) .none kV7 dc7 pm7 an7 cd7 ct7), sl7⟩) (c7 : PySem.W.codeIn K cd7 "better_place" = true) (k7 : PySem.W.keepIn K (.ref f7) = true)
    (a8 : PySem.W.nsIn K mainGlobals "steps_down" = some (some (.ref f8))) (l8 : K.lookup f8 = some ⟨oc8, od8, .func (PySem.W.fnOf "steps_down" "steps_down" (defArgs (topS 11)) (defBody (topS 11)) (defScope (topS 11)) .none kV8 dc8 pm8 an8 cd8 ct8), sl8⟩) (c8 : PySem.W.codeIn K cd8 "steps_down" = true) (k8 : PySem.W.keepIn K (.ref f8) = true)
    (a9 : PySem.W.nsIn K mainGlobals "unbettered" = some (some (.ref f9))) (l9 : K.lookup f9 = some ⟨oc9, od9, .func (PySem.W.fnOf "unbettered" "unbettered" (defArgs (topS 12)) (defBody (topS 12)) (defScope (topS 12)) .none kV9 dc9 pm9 an9 cd9 ct9), sl9⟩) (c9 : PySem.W.codeIn K cd9 "unbettered" = true) (k9 : PySem.W.keepIn K (.ref f9) = true)
    (a10 : PySem.W.nsIn K mainGlobals "_law_source" = some (some (.ref f10))) (l10 : K.lookup f10 = some ⟨oc10, od10, .func (PySem.W.fnOf "_law_source" "_law_source" (defArgs (topS 14)) (defBody (topS 14)) (defScope (topS 14)) .none kV10 dc10 pm10 an10 cd10 ct10), sl10⟩) (c10 : PySem.W.codeIn K cd10 "_law_source" = true) (k10 : PySem.W.keepIn K (.ref f10) = true)
    (a11 : PySem.W.nsIn K mainGlobals "_law_pick" = some (some (.ref f11))) (l11 : K.lookup f11 = some ⟨oc11, od11, .func (PySem.W.fnOf "_law_pick" "_law_pick" (defArgs (topS 15)) (defBody (topS 15)) (defScope (topS 15)) .none kV11 dc11 pm11 an11 cd11 ct11), sl11⟩) (c11 : PySem.W.codeIn K cd11 "_law_pick" = true) (k11 : PySem.W.keepIn K (.ref f11) = true)
    (a12 : PySem.W.nsIn K mainGlobals "_law_of" = some (some (.ref f12))) (l12 : K.lookup f12 = some ⟨oc12, od12, .func (PySem.W.fnOf "_law_of" "_law_of" (defArgs (topS 16)) (defBody (topS 16)) (defScope (topS 16)) .none kV12 dc12 pm12 an12 cd12 ct12), sl12⟩) (c12 : PySem.W.codeIn K cd12 "_law_of" = true) (k12 : PySem.W.keepIn K (.ref f12) = true)
    (a13 : PySem.W.nsIn K mainGlobals "_law_mixed" = some (some (.ref f13))) (l13 : K.lookup f13 = some ⟨oc13, od13, .func (PySem.W.fnOf "_law_mixed" "_law_mixed" (defArgs (topS 17)) (defBody (topS 17)) (defScope (topS 17)) .none kV13 dc13 pm13 an13 cd13 ct13), sl13⟩) (c13 : PySem.W.codeIn K cd13 "_law_mixed" = true) (k13 : PySem.W.keepIn K (.ref f13) = true)
    (a14 : PySem.W.nsIn K mainGlobals "_law_apart" = some (some (.ref f14))) (l14 : K.lookup f14 = some ⟨oc14, od14, .func (PySem.W.fnOf "_law_apart" "_law_apart" (defArgs (topS 18)) (defBody (topS 18)) (defScope (topS 18)) .none kV14 dc14 pm14 an14 cd14 ct14), sl14⟩) (c14 : PySem.W.codeIn K cd14 "_law_apart" = true) (k14 : PySem.W.keepIn K (.ref f14) = true)
    (a15 : PySem.W.nsIn K mainGlobals "_law_hull_words" = some (some (.ref f15))) (l15 : K.lookup f15 = some ⟨oc15, od15, .func (PySem.W.fnOf "_law_hull_words" "_law_hull_words" (defArgs (topS 19)) (defBody (topS 19)) (defScope (topS 19)) .none kV15 dc15 pm15 an15 cd15 ct15), sl15⟩) (c15 : PySem.W.codeIn K cd15 "_law_hull_words" = true) (k15 : PySem.W.keepIn K (.ref f15) = true)
    (a16 : PySem.W.nsIn K mainGlobals "_law_way_words" = some (some (.ref f16))) (l16 : K.lookup f16 = some ⟨oc16, od16, .func (PySem.W.fnOf "_law_way_words" "_law_way_words" (defArgs (topS 20)) (defBody (topS 20)) (defScope (topS 20)) .none kV16 dc16 pm16 an16 cd16 ct16), sl16⟩) (c16 : PySem.W.codeIn K cd16 "_law_way_words" = true) (k16 : PySem.W.keepIn K (.ref f16) = true)
    (a17 : PySem.W.nsIn K mainGlobals "_law_words" = some (some (.ref f17))) (l17 : K.lookup f17 = some ⟨oc17, od17, .func (PySem.W.fnOf "_law_words" "_law_words" (defArgs (topS 21)) (defBody (topS 21)) (defScope (topS 21)) .none kV17 dc17 pm17 an17 cd17 ct17), sl17⟩) (c17 : PySem.W.codeIn K cd17 "_law_words" = true) (k17 : PySem.W.keepIn K (.ref f17) = true)
    (a18 : PySem.W.nsIn K mainGlobals "_law_web" = some (some (.ref f18))) (l18 : K.lookup f18 = some ⟨oc18, od18, .func (PySem.W.fnOf "_law_web" "_law_web" (defArgs (topS 22)) (defBody (topS 22)) (defScope (topS 22)) .none kV18 dc18 pm18 an18 cd18 ct18), sl18⟩) (c18 : PySem.W.codeIn K cd18 "_law_web" = true) (k18 : PySem.W.keepIn K (.ref f18) = true)
    (a19 : PySem.W.nsIn K mainGlobals "_law_table" = some (some (.ref f19))) (l19 : K.lookup f19 = some ⟨oc19, od19, .func (PySem.W.fnOf "_law_table" "_law_table" (defArgs (topS 23)) (defBody (topS 23)) (defScope (topS 23)) .none kV19 dc19 pm19 an19 cd19 ct19), sl19⟩) (c19 : PySem.W.codeIn K cd19 "_law_table" = true) (k19 : PySem.W.keepIn K (.ref f19) = true)
    (a20 : PySem.W.nsIn K mainGlobals "_law_votes" = some (some (.ref f20))) (l20 : K.lookup f20 = some ⟨oc20, od20, .func (PySem.W.fnOf "_law_votes" "_law_votes" (defArgs (topS 24)) (defBody (topS 24)) (defScope (topS 24)) .none kV20 dc20 pm20 an20 cd20 ct20), sl20⟩) (c20 : PySem.W.codeIn K cd20 "_law_votes" = true) (k20 : PySem.W.keepIn K (.ref f20) = true)
    (a21 : PySem.W.nsIn K mainGlobals "_law_far" = some (some (.ref f21))) (l21 : K.lookup f21 = some ⟨oc21, od21, .func (PySem.W.fnOf "_law_far" "_law_far" (defArgs (topS 25)) (defBody (topS 25)) (defScope (topS 25)) .none kV21 dc21 pm21 an21 cd21 ct21), sl21⟩) (c21 : PySem.W.codeIn K cd21 "_law_far" = true) (k21 : PySem.W.keepIn K (.ref f21) = true)
    (a22 : PySem.W.nsIn K mainGlobals "law" = some (some (.ref f22))) (l22 : K.lookup f22 = some ⟨oc22, od22, .func (PySem.W.fnOf "law" "law" (defArgs (topS 26)) (defBody (topS 26)) (defScope (topS 26)) .none kV22 dc22 pm22 an22 cd22 ct22), sl22⟩) (c22 : PySem.W.codeIn K cd22 "law" = true) (k22 : PySem.W.keepIn K (.ref f22) = true)
    (z0 : PySem.W.nsIn K mainGlobals "len" = some none)
    (z1 : PySem.W.nsIn K mainGlobals "int" = some none)
    (z2 : PySem.W.nsIn K mainGlobals "abs" = some none)
    (z3 : PySem.W.nsIn K mainGlobals "max" = some none)
    (z4 : PySem.W.nsIn K mainGlobals "min" = some none)
    (z5 : PySem.W.nsIn K mainGlobals "sum" = some none)
    (z6 : PySem.W.nsIn K mainGlobals "tuple" = some none)
    (z7 : PySem.W.nsIn K mainGlobals "list" = some none)
    (z8 : PySem.W.nsIn K mainGlobals "repr" = some none)
    (z9 : PySem.W.nsIn K mainGlobals "all" = some none)
    (z10 : PySem.W.nsIn K mainGlobals "any" = some none)
    (z11 : PySem.W.nsIn K mainGlobals "range" = some none)
    (z12 : PySem.W.nsIn K mainGlobals "enumerate" = some none)
    (z13 : PySem.W.nsIn K mainGlobals "zip" = some none)
    (z14 : PySem.W.nsIn K mainGlobals "isinstance" = some none)
    (z15 : PySem.W.nsIn K mainGlobals "bool" = some none)
    (z16 : PySem.W.nsIn K mainGlobals "str" = some none)
    (z17 : PySem.W.nsIn K mainGlobals "dict" = some none)
    (z18 : PySem.W.nsIn K mainGlobals "sorted" = some none)
    : Facts K mg fs tbl := by
  refine ⟨fun i x hx => ?_, fun x hx => ?_⟩
  · match i, hx with
    | 0, hx => cases hx; exact ⟨D0, rfl, .inl (fact0 X G a0 l0 c0 k0)⟩
    | 1, hx => cases hx; exact ⟨D1, rfl, .inl (fact1 X G a1 l1 c1 k1)⟩
    | 2, hx => cases hx; exact ⟨D2, rfl, .inl (fact2 X G a2 l2 c2 k2)⟩
    | 3, hx => cases hx; exact ⟨D3, rfl, .inl (fact3 X G a3 l3 c3 k3)⟩
    | 4, hx => cases hx; exact ⟨D4, rfl, .inl (fact4 X G a4 l4 c4 k4)⟩
    | 5, hx => cases hx; exact ⟨D5, rfl, .inl (fact5 X G a5 l5 c5 k5)⟩
    | 6, hx => cases hx; exact ⟨D6, rfl, .inl (fact6 X G a6 l6 c6 k6)⟩
    | 7, hx => cases hx; exact ⟨D7, rfl, .inl (fact7 X G a7 l7 c7 k7)⟩
    | 8, hx => cases hx; exact ⟨D8, rfl, .inl (fact8 X G a8 l8 c8 k8)⟩
    | 9, hx => cases hx; exact ⟨D9, rfl, .inl (fact9 X G a9 l9 c9 k9)⟩
    | 10, hx => cases hx; exact ⟨D10, rfl, .inl (fact10 X G a10 l10 c10 k10)⟩
    | 11, hx => cases hx; exact ⟨D11, rfl, .inl (fact11 X G a11 l11 c11 k11)⟩
    | 12, hx => cases hx; exact ⟨D12, rfl, .inl (fact12 X G a12 l12 c12 k12)⟩
    | 13, hx => cases hx; exact ⟨D13, rfl, .inl (fact13 X G a13 l13 c13 k13)⟩
    | 14, hx => cases hx; exact ⟨D14, rfl, .inl (fact14 X G a14 l14 c14 k14)⟩
    | 15, hx => cases hx; exact ⟨D15, rfl, .inl (fact15 X G a15 l15 c15 k15)⟩
    | 16, hx => cases hx; exact ⟨D16, rfl, .inl (fact16 X G a16 l16 c16 k16)⟩
    | 17, hx => cases hx; exact ⟨D17, rfl, .inl (fact17 X G a17 l17 c17 k17)⟩
    | 18, hx => cases hx; exact ⟨D18, rfl, .inl (fact18 X G a18 l18 c18 k18)⟩
    | 19, hx => cases hx; exact ⟨D19, rfl, .inl (fact19 X G a19 l19 c19 k19)⟩
    | 20, hx => cases hx; exact ⟨D20, rfl, .inl (fact20 X G a20 l20 c20 k20)⟩
    | 21, hx => cases hx; exact ⟨D21, rfl, .inl (fact21 X G a21 l21 c21 k21)⟩
    | 22, hx => cases hx; exact ⟨D22, rfl, .inl (fact22 X G a22 l22 c22 k22)⟩
    | i + 23, hx => simp [fs] at hx
  · unfold biNames at hx
    simp only [List.mem_cons, List.not_mem_nil, or_false] at hx
    rcases hx with rfl | rfl | rfl | rfl | rfl | rfl | rfl | rfl | rfl | rfl | rfl | rfl | rfl | rfl | rfl | rfl | rfl | rfl | rfl
    · exact PySem.W.mg_none_of X G z0
    · exact PySem.W.mg_none_of X G z1
    · exact PySem.W.mg_none_of X G z2
    · exact PySem.W.mg_none_of X G z3
    · exact PySem.W.mg_none_of X G z4
    · exact PySem.W.mg_none_of X G z5
    · exact PySem.W.mg_none_of X G z6
    · exact PySem.W.mg_none_of X G z7
    · exact PySem.W.mg_none_of X G z8
    · exact PySem.W.mg_none_of X G z9
    · exact PySem.W.mg_none_of X G z10
    · exact PySem.W.mg_none_of X G z11
    · exact PySem.W.mg_none_of X G z12
    · exact PySem.W.mg_none_of X G z13
    · exact PySem.W.mg_none_of X G z14
    · exact PySem.W.mg_none_of X G z15
    · exact PySem.W.mg_none_of X G z16
    · exact PySem.W.mg_none_of X G z17
    · exact PySem.W.mg_none_of X G z18
end K48
open PySem PySem.W PyProof.Rows
set_option maxHeartbeats 0 in
theorem PySem.Challenge.cw_websincubes_k48_whole_steps_down_holds : PySem.Challenge.rw_websincubes_k48_whole_steps_down.Holds := by
  w_on; o_law; k_head; (case hw => w_witness2)
  k_fill
  refine Rf.walkG (l := PySem.Challenge.rw_websincubes_k48_whole_steps_down) (n := 63) (fs := K48.fs) (tbl := K48.tbl) (fu := 200) (dp := 4) (i := 22) rfl (by decide) rfl ⟨rfl, by decide, by decide⟩ (fun w h Y => PySem.W.kIn_of Y) ?F rfl ⟨_, rfl, rfl⟩ K48.law_run
  case F =>
    intro w mg h KX G
    refine' K48.all_mk KX G ?a0 ?l0 ?c0 ?k0 ?a1 ?l1 ?c1 ?k1 ?a2 ?l2 ?c2 ?k2 ?a3 ?l3 ?c3 ?k3 ?a4 ?l4 ?c4 ?k4 ?a5 ?l5 ?c5 ?k5 ?a6 ?l6 ?c6 ?k6 ?a7 ?l7 ?c7 ?k7 ?a8 ?l8 ?c8 ?k8 ?a9 ?l9 ?c9 ?k9 ?a10 ?l10 ?c10 ?k10 ?a11 ?l11 ?c11 ?k11 ?a12 ?l12 ?c12 ?k12 ?a13 ?l13 ?c13 ?k13 ?a14 ?l14 ?c14 ?k14 ?a15 ?l15 ?c15 ?k15 ?a16 ?l16 ?c16 ?k16 ?a17 ?l17 ?c17 ?k17 ?a18 ?l18 ?c18 ?k18 ?a19 ?l19 ?c19 ?k19 ?a20 ?l20 ?c20 ?k20 ?a21 ?l21 ?c21 ?k21 ?a22 ?l22 ?c22 ?k22 ?z0 ?z1 ?z2 ?z3 ?z4 ?z5 ?z6 ?z7 ?z8 ?z9 ?z10 ?z11 ?z12 ?z13 ?z14 ?z15 ?z16 ?z17 ?z18
    (case a0 => k_is); (case l0 => k_is); (case c0 => k_is); (case k0 => k_is)
    (case a1 => k_is); (case l1 => k_is); (case c1 => k_is); (case k1 => k_is)
    (case a2 => k_is); (case l2 => k_is); (case c2 => k_is); (case k2 => k_is)
    (case a3 => k_is); (case l3 => k_is); (case c3 => k_is); (case k3 => k_is)
    (case a4 => k_is); (case l4 => k_is); (case c4 => k_is); (case k4 => k_is)
    (case a5 => k_is); (case l5 => k_is); (case c5 => k_is); (case k5 => k_is)
    (case a6 => k_is); (case l6 => k_is); (case c6 => k_is); (case k6 => k_is)
    (case a7 => k_is); (case l7 => k_is); (case c7 => k_is); (case k7 => k_is)
    (case a8 => k_is); (case l8 => k_is); (case c8 => k_is); (case k8 => k_is)
    (case a9 => k_is); (case l9 => k_is); (case c9 => k_is); (case k9 => k_is)
    (case a10 => k_is); (case l10 => k_is); (case c10 => k_is); (case k10 => k_is)
    (case a11 => k_is); (case l11 => k_is); (case c11 => k_is); (case k11 => k_is)
    (case a12 => k_is); (case l12 => k_is); (case c12 => k_is); (case k12 => k_is)
    (case a13 => k_is); (case l13 => k_is); (case c13 => k_is); (case k13 => k_is)
    (case a14 => k_is); (case l14 => k_is); (case c14 => k_is); (case k14 => k_is)
    (case a15 => k_is); (case l15 => k_is); (case c15 => k_is); (case k15 => k_is)
    (case a16 => k_is); (case l16 => k_is); (case c16 => k_is); (case k16 => k_is)
    (case a17 => k_is); (case l17 => k_is); (case c17 => k_is); (case k17 => k_is)
    (case a18 => k_is); (case l18 => k_is); (case c18 => k_is); (case k18 => k_is)
    (case a19 => k_is); (case l19 => k_is); (case c19 => k_is); (case k19 => k_is)
    (case a20 => k_is); (case l20 => k_is); (case c20 => k_is); (case k20 => k_is)
    (case a21 => k_is); (case l21 => k_is); (case c21 => k_is); (case k21 => k_is)
    (case a22 => k_is); (case l22 => k_is); (case c22 => k_is); (case k22 => k_is)
    (case z0 => k_is)
    (case z1 => k_is)
    (case z2 => k_is)
    (case z3 => k_is)
    (case z4 => k_is)
    (case z5 => k_is)
    (case z6 => k_is)
    (case z7 => k_is)
    (case z8 => k_is)
    (case z9 => k_is)
    (case z10 => k_is)
    (case z11 => k_is)
    (case z12 => k_is)
    (case z13 => k_is)
    (case z14 => k_is)
    (case z15 => k_is)
    (case z16 => k_is)
    (case z17 => k_is)
    (case z18 => k_is)


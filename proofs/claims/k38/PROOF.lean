import PyProof.Rows.All
import Wide.All
import OpenK.AllK
import Wide.FinOn
import HandS.ForMost
import HandS.Zip
import HandS.Style
import HandS.TupAny
import HandS.TupMul
import HandS.Wide
import HandS.IsInst
import HandS.RaiseMore
import HandS.Head0
import HandS.Head1
import HandS.Head2
import HandS.HeadEnd
import HandS.EndBits
import HandS.HeadHook1
import HandS.HeadHook2
import KE.SortData
import KE.DataEq
import KE.DataCmp
import KE.DataMinMax
import KE.DataIsa
import KE.DataAny
import KE.Datum
import KE.DatumOrd
import KE.GoesNew
import PyProof.ReprReads
import HandS.More
import HandS.Conv
import HandS.TryOnly
import HandS.ExcOwn
import HandS.ExcIs
import PyProof.ExcBaseAll.ValueError
import KE.KeyNested
import KE.KDictKeyed
import KE.KDictDisplayH
import KE.KTupSum
import HandS.TupLen
import KE.GoesMore
import KE.KDictZip
import HandS.SetFor
import HandS.SortInts
import HandS.Strs
import KE.GoesEnum
import HandS.Deep
import KE.DataFind
import KE.KIndexOf
import KE.KDictWalk
import PyProof.ReprLen
import PyProof.FitsInt
import PySem.Challenge.RW_boxsums_k38_worths_parted

set_option Elab.async false
set_option linter.all false
set_option maxRecDepth 100000
set_option autoImplicit false
/-! The evaluator: a small language of slots, its values are data (lists too), a slot is frozen or one's own. -/
namespace Bx
open PySem

/-- what a slot holds, what an expression gives: nothing known; frozen data; a list or dict of one's own; a look at a slot; a slot lent -/
inductive Sl where
  | no
  | fr (d : PyData)
  | ow (d : PyData)
  | lk (i : Nat)
  | ln (i : Nat)
  | ex (c : Str)
  | rz (c : Str)
abbrev Env := List Sl

inductive BOp where | add | sub | mul | fdiv | mod | pow | shl
  deriving DecidableEq
inductive COp where | eq | ne | lt | le | gt | ge | isin | notin | is | isnot
  deriving DecidableEq
/-- built-in functions of values -/
inductive Bt where | len | sum1 | min1 | max1 | min2 | max2 | abs | int1 | str1 | sorted | repr | list1 | tuple1 | all | any | dct1
  deriving DecidableEq
/-- methods that change their list -/
inductive Mu where | append | extend | pop | insert | reverse | clear
  deriving DecidableEq
/-- methods that read -/
inductive Me where | lidx | lcnt
  deriving DecidableEq
inductive Ty where | int | bool | str | list | tuple | dict
  deriving DecidableEq
inductive Cn where | none | bool (b : Bool) | int (i : Int) | str (s : Str)
  deriving DecidableEq
def Cn.d : Cn → PyData
  | .none => .none
  | .bool b => .bool b
  | .int i => .int i
  | .str s => .str s

/-- targets -/
inductive Tg where
  | nm (i : Nat)
  | tup (a : Tg) (b : Tg)
  | tupn

mutual
inductive Ex where
  | k (c : Cn)
  | v (i : Nat)
  | mv (i : Nat)
  | bw (i : Nat)
  | ln (i : Nat)
  | tup (es : Exs)
  | lst (es : Exs)
  | dct (ks : List Cn) (es : Exs)
  | dk (k e : Ex)
  | dn2 (a b : Ex) (c d : Cn)
  | bin (o : BOp) (a b : Ex)
  | neg (a : Ex)
  | nt (a : Ex)
  | cmp (o : COp) (a b : Ex)
  | ch (o p : COp) (a b c : Ex)
  | an (a b : Ex)
  | orr (a b : Ex)
  | ix (a b : Ex)
  | sl (a lo hi : Ex)
  | rv (a : Ex)
  | rep (a b : Ex)
  | me (m : Me) (a : Ex) (es : Exs)
  | call (f : Nat) (es : Exs)
  | bt (b : Bt) (es : Exs)
  | isi (a : Ex) (ts : List Ty)
  | mu (m : Mu) (i : Nat) (es : Exs)
  | lc (t : Tg) (it : Itr) (c : Ex) (e : Ex) (own : List Nat)
  | lz (es : Exs)
  | ss (a : Ex)
  | s2 (a : Ex)
  | lr1 (a : Ex)
  | lr2 (a b : Ex)
  | fzn (a : Ex)
  | dz (es : Exs)
  | xv (i : Nat)
  | isx (i : Nat) (al ts : List Str)
  | xnn (i : Nat)
inductive Exs where
  | nil
  | cons (e : Ex) (es : Exs)
inductive Itr where
  | ov (e : Ex)
  | rg (es : Exs)
  | zp (es : Exs)
  | en (e : Ex)
  | im (e : Ex)
  | ky (e : Ex)
end

mutual
inductive S where
  | as (t : Tg) (e : Ex)
  | par (i j : Nat) (a b : Ex)
  | sx (i : Nat) (x e : Ex)
  | sw (i : Nat) (x y a b : Ex)
  | ex (e : Ex)
  | rt (e : Ex)
  | iff (c : Ex) (a b : Ss)
  | fo (t : Tg) (it : Itr) (b : Ss) (kill : List Nat)
  | wh (c : Ex) (b : Ss) (kill : List Nat)
  | tr (b : Ss)
  | rs (c : Str)
  | tx (i j : Nat) (hs : List Str) (b : Ss)
  | nv
inductive Ss where
  | nil
  | cons (s : S) (r : Ss)
end

/-- a def: parameters, slots, body, the slots that are stored to -/
structure Fn where
  np : Nat
  ns : Nat
  body : Ss
  asg : List Nat

abbrev Call := Nat → List Sl → Option (Sl × List Sl)

/-! ### values -/
def SZ : Nat := 16777216
/-- looked at where it stands -/
def see (r : Env) : Sl → Option PyData
  | .fr d => some d
  | .ow d => some d
  | .lk i => match r[i]? with
    | some (.fr d) => some d
    | some (.ow d) => some d
    | _ => none
  | _ => none
def seeL (r : Env) : List Sl → Option (List PyData)
  | [] => some []
  | w :: ws => match see r w, seeL r ws with
    | some d, some ds => some (d :: ds)
    | _, _ => none
/-- frozen, to be stored or handed on -/
def fz : Sl → Option PyData
  | .fr d => some d
  | .ow d => some d
  | _ => none
def fzL : List Sl → Option (List PyData)
  | [] => some []
  | w :: ws => match fz w, fzL ws with
    | some d, some ds => some (d :: ds)
    | _, _ => none
def putS (r : Env) (i : Nat) (w : Sl) : Env := r.set i w
mutual
/-- no list or dict within -/
def flat : PyData → Bool
  | .none => true
  | .bool _ => true
  | .int _ => true
  | .str _ => true
  | .list _ => false
  | .tuple xs => flatAll xs
  | .dict _ => false
def flatAll : List PyData → Bool
  | [] => true
  | x :: xs => flat x && flatAll xs
end
/-- a value that leans on no list but its own -/
def flatW : Sl → Bool
  | .fr d => flat d
  | .ow (.list xs) => flatAll xs
  | .no => true
  | _ => false

/-! keys that are tuples, of ints and tuples -/
mutual
def nkey : PyData → Option PySem.NestedKey
  | .int i => some (.num i)
  | .tuple xs => match nkeys xs with
    | some ks => some (.tup ks)
    | none => none
  | _ => none
def nkeys : List PyData → Option (List PySem.NestedKey)
  | [] => some []
  | x :: xs => match nkey x with
    | some k => match nkeys xs with
      | some ks => some (k :: ks)
      | none => none
    | none => none
end
def topKey : PyData → Option PySem.NestedKey
  | .tuple xs => match nkeys xs with
    | some ks => if (PySem.NestedKey.tup ks).depth ≤ 8 then some (.tup ks) else none
    | none => none
  | _ => none
def dGetN : List (PyData × PyData) → PySem.NestedKey → Option PyData
  | [], _ => none
  | kv :: r, q => if topKey kv.1 = some q then some kv.2 else dGetN r q
def dPutN (kvs : List (PyData × PyData)) (k : PyData) (q : PySem.NestedKey) (d : PyData) : List (PyData × PyData) :=
  if (dGetN kvs q).isSome = true then kvs.map (fun kv => if topKey kv.1 = some q then (kv.1, d) else kv) else kvs ++ [(k, d)]
def pairsN : List PyData → Option (List (PyData × PyData))
  | [] => some []
  | .tuple [k, d] :: r => match topKey k with
    | some _ => match pairsN r with
      | some ps => some ((k, d) :: ps)
      | none => none
    | none => none
  | _ => none
def dMergeN : List (PyData × PyData) → List (PyData × PyData) → List (PyData × PyData)
  | acc, [] => acc
  | acc, (k, d) :: r => match topKey k with
    | some q => dMergeN (dPutN acc k q d) r
    | none => acc
/-- whether a dict's keys are tuples -/
def headN : List (PyData × PyData) → Bool
  | (k, _) :: _ => (topKey k).isSome
  | [] => false
/-! ### operators on data -/
def okD (d : PyData) : Bool := d.plain && decide (d.depth ≤ 64)
def smallI (i : Int) : Bool := decide (i.natAbs < 18446744073709551616)
def binD : BOp → PyData → PyData → Option Sl
  | .add, .int i, .int j => some (.fr (.int (i + j)))
  | .add, .str x, .str y => if x.length + y.length ≤ SZ then some (.fr (.str (x ++ y))) else none
  | .add, .tuple xs, .tuple ys => if xs.length + ys.length ≤ SZ then some (.fr (.tuple (xs ++ ys))) else none
  | .add, .list xs, .list ys => if xs.length + ys.length ≤ SZ then some (.ow (.list (xs ++ ys))) else none
  | .sub, .int i, .int j => some (.fr (.int (i - j)))
  | .mul, .int i, .int j => if smallI i || smallI j then some (.fr (.int (i * j))) else none
  | .fdiv, .int i, .int j => if 0 < j ∧ j < 1073741824 then some (.fr (.int (i / j))) else none
  | .mod, .int i, .int j => if 0 < j then some (.fr (.int (i % j))) else none
  | .pow, .int i, .int j => if 0 ≤ j ∧ j ≤ 1000000 ∧ i.natAbs < 2 ^ 64 then some (.fr (.int (i ^ j.toNat))) else none
  | .shl, .int i, .int j => if 0 ≤ j ∧ j ≤ 1000000 ∧ i.natAbs < 2 ^ 64 then some (.fr (.int (i * 2 ^ j.toNat))) else none
  | _, _, _ => none
def cmpD : COp → PyData → PyData → Option Bool
  | .eq, x, y => if okD x && okD y then some (PyData.eqv x y) else none
  | .ne, x, y => if okD x && okD y then some (!PyData.eqv x y) else none
  | .lt, .int i, .int j => some (decide (i < j))
  | .le, .int i, .int j => some (decide (i ≤ j))
  | .gt, .int i, .int j => some (decide (j < i))
  | .ge, .int i, .int j => some (decide (j ≤ i))
  | .is, .bool a, .bool b => some (a == b)
  | .isnot, .bool a, .bool b => some (!(a == b))
  | .is, x, .none => some (match x with | .none => true | _ => false)
  | .isnot, x, .none => some (match x with | .none => false | _ => true)
  | .isin, x, .list ys => if okD x && okD (.list ys) then some (ys.any fun y => PyData.eqv y x) else none
  | .isin, x, .tuple ys => if okD x && okD (.tuple ys) then some (ys.any fun y => PyData.eqv y x) else none
  | .notin, x, .list ys => if okD x && okD (.list ys) then some (!ys.any fun y => PyData.eqv y x) else none
  | .notin, x, .tuple ys => if okD x && okD (.tuple ys) then some (!ys.any fun y => PyData.eqv y x) else none
  | .isin, x, .dict kvs => match topKey x with
    | some q => if headN kvs = true then some (dGetN kvs q).isSome else none
    | none => none
  | .notin, x, .dict kvs => match topKey x with
    | some q => if headN kvs = true then some (!(dGetN kvs q).isSome) else none
    | none => none
  | _, _, _ => none
/-- a dict's keys: ints, texts -/
def keyD : PyData → Option (Sum Int Str)
  | .int i => some (.inl i)
  | .str s => some (.inr s)
  | _ => none
def dGet : List (PyData × PyData) → Sum Int Str → Option PyData
  | [], _ => none
  | kv :: r, q => if keyD kv.1 = some q then some kv.2 else dGet r q
def dPut (kvs : List (PyData × PyData)) (k : PyData) (q : Sum Int Str) (d : PyData) : List (PyData × PyData) :=
  if (kvs.any fun kv => decide (keyD kv.1 = some q)) = true then kvs.map (fun kv => if keyD kv.1 = some q then (kv.1, d) else kv) else kvs ++ [(k, d)]
/-- pairs of a key and a thing -/
def pairsD : List PyData → Option (List (PyData × PyData))
  | [] => some []
  | .tuple [k, d] :: r => match keyD k with
    | some _ => match pairsD r with
      | some ps => some ((k, d) :: ps)
      | none => none
    | none => none
  | _ => none
/-- put in, one by one -/
def dMerge : List (PyData × PyData) → List (PyData × PyData) → List (PyData × PyData)
  | acc, [] => acc
  | acc, (k, d) :: r => match keyD k with
    | some q => dMerge (dPut acc k q d) r
    | none => acc
/-- the keys of a display: all of them keys, no two alike -/
def keysOk : List Cn → Bool
  | [] => true
  | c :: cs => (keyD c.d).isSome && !(cs.any fun c' => decide (keyD c'.d = keyD c.d)) && keysOk cs
/-- x[i] -/
def idxD : PyData → PyData → Option PyData
  | .list xs, .int i => L2.atI xs i
  | .tuple xs, .int i => L2.atI xs i
  | .dict kvs, k => match topKey k with
    | some q => dGetN kvs q
    | none => none
  | _, _ => none
/-- .. of dicts, too -/
def idxA : PyData → PyData → Option PyData
  | .dict kvs, k => match keyD k with
    | some q => dGet kvs q
    | none => idxD (.dict kvs) k
  | x, k => idxD x k
def isNoneE : Ex → Bool
  | .k .none => true
  | _ => false
/-- a slice's part: left out, or an int -/
def partD (e : Ex) (d : PyData) : Option (Option Int) := if isNoneE e then some none else match d with
  | .int i => some (some i)
  | _ => none
/-- xs[lo:hi] -/
def cutL {α : Type} (xs : List α) (lo hi : Option Int) : List α := (xs.drop (HT.sIx xs.length 0 lo)).take (HT.sIx xs.length xs.length hi - HT.sIx xs.length 0 lo)
def sliceD (x : PyData) (lo hi : Option Int) : Option Sl := match x with
  | .list xs => some (.ow (.list (cutL xs lo hi)))
  | .tuple xs => some (.fr (.tuple (cutL xs lo hi)))
  | _ => none
def intsOf : List PyData → Option (List Int)
  | [] => some []
  | .int i :: r => match intsOf r with
    | some l => some (i :: l)
    | none => none
  | _ :: _ => none
def boolsOf : List PyData → Option (List Bool)
  | [] => some []
  | .bool i :: r => match boolsOf r with
    | some l => some (i :: l)
    | none => none
  | _ :: _ => none
/-- the items of a list or a tuple -/
def itemsOf : PyData → Option (List PyData)
  | .list xs => some xs
  | .tuple xs => some xs
  | _ => none
/-- every two alike: no tuple empty -/
def sortOk (xs : List PyData) : Bool :=
  (xs.all fun x => xs.all fun y => PySem.W.alike x y) && (xs.all fun x => decide (x.depth ≤ 64) && x.plain) &&
    ((xs.all fun x => match x with | .tuple (_ :: _) => true | _ => false) || (xs.all fun x => match x with | .none => false | .tuple _ => false | _ => true)) && decide (xs.length ≤ SZ)
def reprOk (x : PyData) : Bool := x.plain && x.showable && decide (x.shown.length ≤ SZ) && decide (x.depth ≤ 64)
/-- min, max of a list of alike data -/
def leastD (xs : List PyData) : Option Sl := if sortOk xs = true then (match xs with | x :: r => some (.fr (PySem.W.minD x r)) | [] => none) else none
def mostD (xs : List PyData) : Option Sl := if sortOk xs = true then (match xs with | x :: r => some (.fr (PySem.W.maxD x r)) | [] => none) else none
/-- lists within a list -/
def listsOf : List PyData → Option (List (List PyData))
  | [] => some []
  | .list xs :: r => match listsOf r with
    | some l => some (xs :: l)
    | none => none
  | _ :: _ => none
/-- whole numbers, sorted, each once -/
def onceI (x : Int) : List Int → List Int
  | [] => [x]
  | y :: r => if x < y then x :: y :: r else if x = y then y :: r else y :: onceI x r
def ssL (ns : List Int) : List Int := ns.foldr onceI []
def btD : Bt → List PyData → Option Sl
  | .len, [.list xs] => some (.fr (.int xs.length))
  | .len, [.tuple xs] => some (.fr (.int xs.length))
  | .len, [.dict kvs] => some (.fr (.int kvs.length))
  | .sum1, [.list xs] => match intsOf xs with
      | some ns => some (.fr (.int ns.sum))
      | none => none
  | .sum1, [.tuple xs] => match intsOf xs with
      | some ns => some (.fr (.int ns.sum))
      | none => none
  | .min1, [.list xs] => match intsOf xs with
      | some (n :: ns) => some (.fr (.int (ns.foldl min n)))
      | some [] => none
      | none => leastD xs
  | .max1, [.list xs] => match intsOf xs with
      | some (n :: ns) => some (.fr (.int (ns.foldl max n)))
      | some [] => none
      | none => mostD xs
  | .min1, [.tuple xs] => match intsOf xs with
      | some (n :: ns) => some (.fr (.int (ns.foldl min n)))
      | _ => none
  | .max1, [.tuple xs] => match intsOf xs with
      | some (n :: ns) => some (.fr (.int (ns.foldl max n)))
      | _ => none
  | .min2, [.int i, .int j] => some (.fr (.int (min i j)))
  | .max2, [.int i, .int j] => some (.fr (.int (max i j)))
  | .abs, [.int i] => some (.fr (.int (i.natAbs : Int)))
  | .int1, [.int i] => some (.fr (.int i))
  | .int1, [.bool b] => some (.fr (.int (if b then 1 else 0)))
  | .sorted, [.list xs] => if sortOk xs then some (.ow (.list (xs.mergeSort (PySem.W.dataLe false id)))) else none
  | .repr, [x] => if reprOk x then some (.fr (.str x.shown)) else none
  | .str1, [.int i] => if i.natAbs.log2 < 1920 then some (.fr (.str (toString i))) else none
  | .list1, [.list xs] => some (.ow (.list xs))
  | .list1, [.tuple xs] => some (.ow (.list xs))
  | .tuple1, [.list xs] => some (.fr (.tuple xs))
  | .tuple1, [.tuple xs] => some (.fr (.tuple xs))
  | .all, [.list xs] => match boolsOf xs with
    | some bs => some (.fr (.bool (bs.all id)))
    | none => none
  | .any, [.list xs] => match boolsOf xs with
    | some bs => some (.fr (.bool (bs.any id)))
    | none => none
  | .dct1, [.list xs] => match pairsD xs with
    | some ps => some (.ow (.dict (dMerge [] ps)))
    | none => match pairsN xs with
      | some ps => if ps.length ≤ SZ ∧ ps.isEmpty = false then some (.ow (.dict (dMergeN [] ps))) else none
      | none => none
  | _, _ => none
def isTy : PyData → Ty → Bool
  | .int _, .int => true
  | .bool _, .int => true
  | .bool _, .bool => true
  | .str _, .str => true
  | .list _, .list => true
  | .tuple _, .tuple => true
  | .dict _, .dict => true
  | _, _ => false
/-- what changes a list: the list behind it, what is told -/
def muD : Mu → List PyData → List PyData → Option (PyData × List PyData)
  | .append, xs, [y] => if xs.length < SZ then some (.none, xs ++ [y]) else none
  | .extend, xs, [.list ys] => if xs.length + ys.length ≤ SZ then some (.none, xs ++ ys) else none
  | .pop, xs, [] => match xs[xs.length - 1]? with
    | some y => some (y, xs.dropLast)
    | none => none
  | .insert, xs, [.int i, y] => if xs.length < SZ ∧ 0 ≤ i ∧ i < 9223372036854775808 then some (.none, xs.take i.toNat ++ [y] ++ xs.drop i.toNat) else none
  | .reverse, xs, [] => some (.none, xs.reverse)
  | .clear, xs, [] => some (.none, [])
  | _, _, _ => none
/-- the arguments of such a method: extend looks at its list, the others keep what they are given -/
def muA (m : Mu) (r : Env) (ws : List Sl) : Option (List PyData) := match m with
  | .extend => seeL r ws
  | _ => fzL ws
/-- o[k] = d -/
def putD : PyData → PyData → PyData → Option PyData
  | .list xs, .int k, d => match L2.ixN xs.length k with
    | some j => some (.list (xs.set j d))
    | none => none
  | .dict kvs, k, d => match keyD k with
    | some q => if kvs.length < SZ ∧ headN kvs = false then some (.dict (dPut kvs k q d)) else none
    | none => match topKey k with
      | some q => if kvs.length < SZ ∧ (kvs.isEmpty || headN kvs) = true then some (.dict (dPutN kvs k q d)) else none
      | none => none
  | _, _, _ => none
/-! ### the evaluator -/
def asgT : Tg → PyData → Env → Option Env
  | .nm i, d, r => if i < r.length then some (r.set i (.fr d)) else none
  | .tup a b, .tuple (x :: xs), r => match asgT a x r with
    | some r1 => asgT b (.tuple xs) r1
    | none => none
  | .tup a b, .list (x :: xs), r => match asgT a x r with
    | some r1 => asgT b (.tuple xs) r1
    | none => none
  | .tupn, .tuple [], r => some r
  | _, _, _ => none
/-- what a sequence so many times is: a list of one's own, a tuple -/
def repD (r : Env) (x : Sl) (k : Int) : Option Sl := match x with
  | .ow (.list xs) => if -4611686018427387904 ≤ k ∧ k < 4611686018427387904 ∧ xs.length * k.toNat ≤ SZ then some (.ow (.list (List.replicate k.toNat xs).flatten)) else none
  | x => match see r x with
    | some (.tuple xs) => if xs ≠ [] ∧ 1 ≤ k ∧ k ≤ 1000 ∧ xs.length ≤ 1000 then some (.fr (.tuple (List.replicate k.toNat xs).flatten)) else none
    | _ => none
def meD : Me → PyData → List PyData → Option Sl
  | .lidx, .list xs, [y] => if (okD (.list xs) && okD y) && (PyData.canLayAll0 xs && y.canLay0) then (match xs.findIdx? fun x => PyData.eqv x y with
      | some j => some (.fr (.int (j : Int)))
      | none => none) else none
  | .lcnt, .list xs, [y] => if okD (.list xs) && okD y then some (.fr (.int ((xs.countP fun x => PyData.eqv x y : Nat) : Int))) else none
  | _, _, _ => none
def revD : PyData → Option Sl
  | .list xs => some (.ow (.list xs.reverse))
  | .tuple xs => some (.fr (.tuple xs.reverse))
  | _ => none
def asg : Tg → Sl → Env → Option Env
  | .nm i, .fr d, r => if i < r.length then some (r.set i (.fr d)) else none
  | .nm i, .ow d, r => if i < r.length then some (r.set i (.ow d)) else none
  | .nm _, _, _ => none
  | t, .fr d, r => asgT t d r
  | t, .lk i, r => match see r (.lk i) with
    | some (.tuple ds) => asgT t (.tuple ds) r
    | _ => none
  | _, _, _ => none
/-- a thing of one's own that is unpacked -/
def frz : Tg → Sl → Sl
  | .nm _, w => w
  | _, .ow d => .fr d
  | _, w => w
def killS : Env → List Nat → Env
  | r, [] => r
  | r, i :: l => killS (r.set i .no) l
def hide : Env → List Nat → Env
  | r, [] => r
  | r, i :: l => hide (r.set i .no) l
/-- slots as they were put back -/
def back (o : Env) : Env → List Nat → Env
  | r, [] => r
  | r, i :: l => back o (r.set i (o.getD i .no)) l
/-- the slots of looks that are one's own -/
def ownLk (r : Env) : List Sl → List Nat
  | [] => []
  | .lk i :: ws => match r[i]? with
    | some (.ow _) => i :: ownLk r ws
    | _ => ownLk r ws
  | _ :: ws => ownLk r ws
def rangeD : List PyData → Option (List PyData)
  | [.int j] => if -(2 ^ 62) ≤ j ∧ j < 2 ^ 62 then some ((List.range j.toNat).map fun (i : Nat) => .int (i : Int)) else none
  | [.int a, .int b] => if -(2 ^ 62) ≤ a ∧ a < 2 ^ 62 ∧ -(2 ^ 62) ≤ b ∧ b < 2 ^ 62 then some ((List.range (b - a).toNat).map fun (i : Nat) => .int (a + (i : Int))) else none
  | _ => none
def zipD : List PyData → Option (List PyData)
  | [a, b] => match itemsOf a, itemsOf b with
    | some xs, some ys => some ((xs.zip ys).map fun p => .tuple [p.1, p.2])
    | _, _ => none
  | [a, b, c] => match itemsOf a, itemsOf b, itemsOf c with
    | some xs, some ys, some zs => some ((xs.zip (ys.zip zs)).map fun p => .tuple [p.1, p.2.1, p.2.2])
    | _, _, _ => none
  | _ => none
def enumFrom : Int → List PyData → List PyData
  | _, [] => []
  | k, x :: xs => .tuple [.int k, x] :: enumFrom (k + 1) xs
def enumD : PyData → Option (List PyData)
  | .list xs => some (enumFrom 0 xs)
  | .tuple xs => some (enumFrom 0 xs)
  | _ => none

/-- a call's arguments: what the callee gets; the slots borrowed, lent -/
def argOf (r : Env) : Sl → Option Sl
  | .fr d => some (.fr d)
  | .ow d => some (.fr d)
  | .lk i => match r[i]? with
    | some (.fr d) => some (.fr d)
    | some (.ow d) => some (.fr d)
    | _ => none
  | .ln i => match r[i]? with
    | some (.ow d) => some (.ow d)
    | _ => none
  | .ex c => some (.ex c)
  | .rz _ => none
  | .no => none
def argsOf (r : Env) : List Sl → Option (List Sl)
  | [] => some []
  | w :: ws => match argOf r w, argsOf r ws with
    | some a, some l => some (a :: l)
    | _, _ => none
def lents : List Sl → List Nat
  | [] => []
  | .ln i :: ws => i :: lents ws
  | _ :: ws => lents ws
def nodupB : List Nat → Bool
  | [] => true
  | i :: l => !l.contains i && nodupB l
/-- behind a call: lent slots as they are told -/
def giveBack : Env → List Sl → List Sl → Env
  | r, .ln i :: ws, f :: fs => giveBack (r.set i f) ws fs
  | r, _ :: ws, _ :: fs => giveBack r ws fs
  | r, _, _ => r
/-- slots that become frozen -/
def freezeAt (r : Env) : List Nat → Env
  | [] => r
  | i :: l => match r[i]? with
    | some (.ow d) => freezeAt (r.set i (.fr d)) l
    | _ => freezeAt r l
def isV : Sl → Bool
  | .fr _ => true
  | .ow _ => true
  | _ => false
def callE (C : Call) (f : Nat) (ws : List Sl) (r : Env) : Option (Sl × Env) :=
  match argsOf r ws with
  | none => none
  | some as =>
    if nodupB (lents ws) && (ownLk r ws).all fun i => !(lents ws).contains i then
      match C f as with
      | none => none
      | some (w, fs) =>
        if isV w && decide (fs.length = ws.length) then
          if flatW w && fs.all flatW then some (w, giveBack r ws fs)
          else some (w, giveBack (freezeAt r (ownLk r ws)) ws fs)
        else none
    else none

def compL (f : PyData → Env → Option (Option PyData × Env)) : List PyData → List PyData → Env → Option (List PyData × Env)
  | [], acc, r => some (acc, r)
  | x :: xs, acc, r => match f x r with
    | some (some y, r1) => if acc.length < SZ then compL f xs (acc ++ [y]) r1 else none
    | some (none, r1) => compL f xs acc r1
    | none => none

mutual
def evE (C : Call) : Ex → Env → Option (Sl × Env)
  | .k c, r => some (.fr c.d, r)
  | .v i, r => match r[i]? with
    | some (.fr d) => some (.fr d, r)
    | some (.ow d) => some (.fr d, r.set i (.fr d))
    | _ => none
  | .mv i, r => match r[i]? with
    | some (.fr d) => some (.fr d, r)
    | some (.ow d) => some (.ow d, r.set i .no)
    | _ => none
  | .bw i, r => match r[i]? with
    | some (.fr _) => some (.lk i, r)
    | some (.ow _) => some (.lk i, r)
    | _ => none
  | .ln i, r => match r[i]? with
    | some (.ow _) => some (.ln i, r)
    | _ => none
  | .tup es, r => match evEs C es r with
    | some (ws, r1) => match fzL ws with
      | some ds => if ds.length ≤ SZ then some (.fr (.tuple ds), r1) else none
      | none => none
    | none => none
  | .lst es, r => match evEs C es r with
    | some (ws, r1) => match fzL ws with
      | some ds => if ds.length ≤ SZ then some (.ow (.list ds), r1) else none
      | none => none
    | none => none
  | .dct ks es, r => match evEs C es r with
    | some (ws, r1) => match fzL ws with
      | some ds => if ks.length = ds.length ∧ ks.length ≤ 15 ∧ keysOk ks = true then some (.ow (.dict ((ks.map Cn.d).zip ds)), r1) else none
      | none => none
    | none => none
  | .dk k e, r => match evE C k r with
    | some (.fr kd, r1) => match evE C e r1 with
      | some (w, r2) => match fz w with
        | some d => match keyD kd with
          | some _ => some (.ow (.dict [(kd, d)]), r2)
          | none => none
        | none => none
      | none => none
    | _ => none
  | .dn2 a b c d, r => match evE C a r with
    | some (.fr x, r1) => match evE C b r1 with
      | some (.fr y, r2) => if (topKey x).isSome = true ∧ (topKey y).isSome = true then some (.ow (.dict (dMergeN [] [(x, c.d), (y, d.d)])), r2) else none
      | _ => none
    | _ => none
  | .bin o a b, r => match evE C a r with
    | some (x, r1) => match evE C b r1 with
      | some (y, r2) => match see r2 x, see r2 y with
        | some d, some e => match binD o d e with
          | some w => some (w, r2)
          | none => none
        | _, _ => none
      | none => none
    | none => none
  | .neg a, r => match evE C a r with
    | some (.fr (.int i), r1) => some (.fr (.int (-i)), r1)
    | _ => none
  | .nt a, r => match evE C a r with
    | some (.fr (.bool b), r1) => some (.fr (.bool (!b)), r1)
    | _ => none
  | .cmp o a b, r => match evE C a r with
    | some (x, r1) => match evE C b r1 with
      | some (y, r2) => match see r2 x, see r2 y with
        | some d, some e => match cmpD o d e with
          | some c => some (.fr (.bool c), r2)
          | none => none
        | _, _ => none
      | none => none
    | none => none
  | .ch o p a b c, r => match evE C a r with
    | some (x, r1) => match evE C b r1 with
      | some (y, r2) => match see r2 x, see r2 y with
        | some d, some e => match cmpD o d e with
          | some true => match evE C c r2 with
            | some (z, r3) => match see r3 y, see r3 z with
              | some e', some g => match cmpD p e' g with
                | some h => some (.fr (.bool h), r3)
                | none => none
              | _, _ => none
            | none => none
          | some false => some (.fr (.bool false), r2)
          | none => none
        | _, _ => none
      | none => none
    | none => none
  | .an a b, r => match evE C a r with
    | some (.fr (.bool true), r1) => match evE C b r1 with
      | some (.fr (.bool c), r2) => some (.fr (.bool c), r2)
      | _ => none
    | some (.fr (.bool false), r1) => some (.fr (.bool false), r1)
    | _ => none
  | .orr a b, r => match evE C a r with
    | some (.fr (.bool true), r1) => some (.fr (.bool true), r1)
    | some (.fr (.bool false), r1) => match evE C b r1 with
      | some (.fr (.bool c), r2) => some (.fr (.bool c), r2)
      | _ => none
    | _ => none
  | .ix a b, r => match evE C a r with
    | some (x, r1) => match evE C b r1 with
      | some (y, r2) => match see r2 x, see r2 y with
        | some d, some e => match idxA d e with
          | some g => some (.fr g, r2)
          | none => none
        | _, _ => none
      | none => none
    | none => none
  | .sl a lo hi, r => match evE C a r with
    | some (x, r1) => match evE C lo r1 with
      | some (.fr y, r2) => match evE C hi r2 with
        | some (.fr z, r3) => match see r3 x, partD lo y, partD hi z with
          | some d, some l, some h => match sliceD d l h with
            | some w => some (w, r3)
            | none => none
          | _, _, _ => none
        | _ => none
      | _ => none
    | none => none
  | .rep a b, r => match evE C a r with
    | some (x, r1) => match evE C b r1 with
      | some (.fr (.int k), r2) => match repD r2 x k with
        | some w => some (w, r2)
        | none => none
      | _ => none
    | none => none
  | .me m a es, r => match evE C a r with
    | some (x, r1) => match see r1 x with
      | some (.list _) => match evEs C es r1 with
        | some (ws, r2) => match see r2 x, seeL r2 ws with
          | some d, some ds => match meD m d ds with
            | some w => some (w, r2)
            | none => none
          | _, _ => none
        | none => none
      | _ => none
    | none => none
  | .rv a, r => match evE C a r with
    | some (x, r1) => match see r1 x with
      | some d => match revD d with
        | some w => some (w, r1)
        | none => none
      | none => none
    | none => none
  | .call f es, r => match evEs C es r with
    | some (ws, r1) => callE C f ws r1
    | none => none
  | .bt b es, r => match evEs C es r with
    | some (ws, r1) => match seeL r1 ws with
      | some ds => match btD b ds with
        | some w => some (w, r1)
        | none => none
      | none => none
    | none => none
  | .isi a ts, r => match evE C a r with
    | some (x, r1) => match see r1 x with
      | some d => some (.fr (.bool (ts.any (isTy d))), r1)
      | none => none
    | none => none
  | .mu m i es, r => match r[i]? with
    | some (.ow (.list _)) => match evEs C es r with
      | some (ws, r1) => match r1[i]? with
        | some (.ow (.list xs)) => match muA m r1 ws with
          | some ds => match muD m xs ds with
            | some (y, ys) => some (.fr y, r1.set i (.ow (.list ys)))
            | none => none
          | none => none
        | _ => none
      | none => none
    | _ => none
  | .lc t it c e own, r => match evI C it r with
    | some (xs, hs, r1) => match compL (fun x r => match asgT t x (killS r own) with
        | some r2 => match evE C c r2 with
          | some (.fr (.bool true), r3) => match evE C e r3 with
            | some (w, r4) => match fz w with
              | some y => some (some y, killS r4 own)
              | none => none
            | none => none
          | some (.fr (.bool false), r3) => some (none, killS r3 own)
          | _ => none
        | none => none) xs [] (killS (hide r1 hs) own) with
      | some (ys, r5) => some (.ow (.list ys), back r1 r5 hs)
      | none => none
    | none => none
  | .dz es, r => match evEs C es r with
    | some (ws, r1) => match seeL r1 ws with
      | some ds => match zipD ds with
        | some xs => match pairsN xs with
          | some ps => if ds.length = 2 ∧ xs.length ≤ SZ ∧ ps.isEmpty = false then some (.ow (.dict (dMergeN [] ps)), r1) else none
          | none => none
        | none => none
      | none => none
    | none => none
  | .lr1 a, r => match evE C a r with
    | some (.fr d, r1) => match rangeD [d] with
      | some xs => if xs.length ≤ SZ then some (.ow (.list xs), r1) else none
      | none => none
    | _ => none
  | .lr2 a b, r => match evE C a r with
    | some (.fr d, r1) => match evE C b r1 with
      | some (.fr e, r2) => match rangeD [d, e] with
        | some xs => if xs.length ≤ SZ then some (.ow (.list xs), r2) else none
        | none => none
      | _ => none
    | _ => none
  | .ss a, r => match evE C a r with
    | some (w, r1) => match see r1 w with
      | some d => match itemsOf d with
        | some xs => match intsOf xs with
          | some ns => if ns.length < 4000 then some (.ow (.list ((ssL ns).map .int)), r1) else none
          | none => none
        | none => none
      | none => none
    | none => none
  | .s2 a, r => match evE C a r with
    | some (w, r1) => match see r1 w with
      | some (.list xs) => match listsOf xs with
        | some ls => if ls.flatten.length ≤ SZ then some (.ow (.list ls.flatten), r1) else none
        | none => none
      | _ => none
    | none => none
  | .xv i, r => match r[i]? with
    | some (.ex c) => some (.ex c, r)
    | _ => none
  | .isx i al ts, r => match r[i]? with
    | some (.ex c) => if al.contains c = true then some (.fr (.bool (ts.contains c)), r) else none
    | _ => none
  | .xnn i, r => match r[i]? with
    | some (.ex _) => some (.fr (.bool true), r)
    | some (.fr .none) => some (.fr (.bool false), r)
    | some (.fr _) => some (.fr (.bool true), r)
    | _ => none
  | .fzn a, r => match evE C a r with
    | some (.fr d, r1) => some (.fr d, r1)
    | some (.ow (.list xs), r1) => some (.fr (.list xs), r1)
    | some (.ow (.dict xs), r1) => some (.fr (.dict xs), r1)
    | _ => none
  | .lz es, r => match evEs C es r with
    | some (ws, r1) => match seeL r1 ws with
      | some ds => match zipD ds with
        | some xs => if ds.length = 2 ∧ xs.length ≤ SZ then some (.ow (.list xs), r1) else none
        | none => none
      | none => none
    | none => none
def evEs (C : Call) : Exs → Env → Option (List Sl × Env)
  | .nil, r => some ([], r)
  | .cons e es, r => match evE C e r with
    | some (w, r1) => match evEs C es r1 with
      | some (ws, r2) => some (w :: ws, r2)
      | none => none
    | none => none
/-- what is walked: the items, the slots that stay out of reach meanwhile -/
def evI (C : Call) : Itr → Env → Option (List PyData × List Nat × Env)
  | .ov e, r => match evE C e r with
    | some (w, r1) => match see r1 w with
      | some d => match itemsOf d with
        | some xs => some (xs, ownLk r1 [w], r1)
        | none => none
      | none => none
    | none => none
  | .rg es, r => match evEs C es r with
    | some (ws, r1) => match seeL r1 ws with
      | some ds => match rangeD ds with
        | some xs => some (xs, [], r1)
        | none => none
      | none => none
    | none => none
  | .zp es, r => match evEs C es r with
    | some (ws, r1) => match seeL r1 ws with
      | some ds => match zipD ds with
        | some xs => some (xs, ownLk r1 ws, r1)
        | none => none
      | none => none
    | none => none
  | .im e, r => match evE C e r with
    | some (w, r1) => match see r1 w with
      | some (.dict kvs) => if headN kvs = true then some (kvs.map fun kv => .tuple [kv.1, kv.2], ownLk r1 [w], r1) else none
      | _ => none
    | none => none
  | .ky e, r => match evE C e r with
    | some (w, r1) => match see r1 w with
      | some (.dict kvs) => if headN kvs = true then some (kvs.map fun kv => kv.1, ownLk r1 [w], r1) else none
      | _ => none
    | none => none
  | .en e, r => match evE C e r with
    | some (w, r1) => match see r1 w with
      | some d => match enumD d with
        | some xs => some (xs, ownLk r1 [w], r1)
        | none => none
      | none => none
    | none => none
end

/-- a call that raises: the class, the slots behind it -/
def xcall (C : Call) (f : Nat) (ws : List Sl) (r : Env) : Option (Str × Env) :=
  match argsOf r ws with
  | none => none
  | some as =>
    if nodupB (lents ws) && (ownLk r ws).all fun i => !(lents ws).contains i then
      match C f as with
      | some (.rz c, _) => some (c, giveBack r ws (ws.map fun _ => Sl.no))
      | _ => none
    else none
mutual
/-- an expression that raises -/
def xE (C : Call) : Ex → Env → Option (Str × Env)
  | .call f es, r => match evEs C es r with
    | some (ws, r1) => xcall C f ws r1
    | none => xEs C es r
  | .bt _ es, r => xEs C es r
  | _, _ => none
def xEs (C : Call) : Exs → Env → Option (Str × Env)
  | .cons e es, r => match evE C e r with
    | some (_, r1) => xEs C es r1
    | none => xE C e r
  | .nil, _ => none
end
/-- a statement's end -/
inductive Rs where
  | nx (r : Env)
  | rt (w : Sl) (r : Env)
/-- slots that a target, a statement stores to -/
def Tg.st : Tg → List Nat
  | .nm i => [i]
  | .tup a b => a.st ++ b.st
  | .tupn => []
mutual
def S.st : S → List Nat
  | .as t _ => t.st
  | .par i j _ _ => [i, j]
  | .iff _ a b => a.st ++ b.st
  | .fo t _ b _ => t.st ++ b.st
  | .wh _ b _ => b.st
  | .tr b => b.st
  | .tx i j _ b => i :: j :: b.st
  | _ => []
def Ss.st : Ss → List Nat
  | .nil => []
  | .cons s r => s.st ++ r.st
end
def forL (f : PyData → Env → Option Rs) (kill : List Nat) : List PyData → Env → Option Rs
  | [], r => some (.nx r)
  | x :: xs, r => match f x r with
    | some (.nx r1) => forL f kill xs (killS r1 kill)
    | some (.rt w r1) => some (.rt w r1)
    | none => none
def whileL (c : Env → Option (Sl × Env)) (b : Env → Option Rs) (kill : List Nat) : Nat → Env → Option Rs
  | 0, _ => none
  | n + 1, r => match c r with
    | some (.fr (.bool true), r1) => match b r1 with
      | some (.nx r2) => whileL c b kill n (killS r2 kill)
      | some (.rt w r2) => some (.rt w r2)
      | none => none
    | some (.fr (.bool false), r1) => some (.nx r1)
    | _ => none
def TURNS : Nat := 100000
def backR (o : Env) (hs : List Nat) : Rs → Rs
  | .nx r => .nx (back o r hs)
  | .rt w r => .rt w (back o r hs)
mutual
def evS (C : Call) : S → Env → Option Rs
  | .as t e, r => match evE C e r with
    | some (w, r1) => match asg t (frz t w) r1 with
      | some r2 => some (.nx r2)
      | none => none
    | none => none
  | .par i j a b, r => match evEs C (.cons a (.cons b .nil)) r with
    | some (ws, r1) => match fzL ws with
      | some [d, e] => if i ≠ j ∧ i < r1.length ∧ j < r1.length then some (.nx ((r1.set i (.fr d)).set j (.fr e))) else none
      | _ => none
    | none => none
  | .sx i x e, r => match evE C e r with
    | some (w, r1) => match fz w, r1[i]? with
      | some d, some (.ow _) => match evE C x r1 with
        | some (.fr k, r2) => match r2[i]? with
          | some (.ow o) => match putD o k d with
            | some o' => some (.nx (r2.set i (.ow o')))
            | none => none
          | _ => none
        | _ => none
      | _, _ => none
    | none => none
  | .sw i x y a b, r => match evEs C (.cons a (.cons b .nil)) r with
    | some (ws, r1) => match fzL ws with
      | some [d, e] => match evE C x r1 with
        | some (.fr (.int k1), r2) => match r2[i]? with
          | some (.ow (.list xs)) => match L2.ixN xs.length k1 with
            | some j1 => match evE C y (r2.set i (.ow (.list (xs.set j1 d)))) with
              | some (.fr (.int k2), r4) => match r4[i]? with
                | some (.ow (.list ys)) => match L2.ixN ys.length k2 with
                  | some j2 => match r1[i]?, r2[i]? with
                    | some (.ow _), some (.ow _) => some (.nx (r4.set i (.ow (.list (ys.set j2 e)))))
                    | _, _ => none
                  | none => none
                | _ => none
              | _ => none
            | none => none
          | _ => none
        | _ => none
      | _ => none
    | none => none
  | .ex e, r => match evE C e r with
    | some (_, r1) => some (.nx r1)
    | none => none
  | .rt e, r => match evE C e r with
    | some (.fr d, r1) => some (.rt (.fr d) r1)
    | some (.ow d, r1) => some (.rt (.ow d) r1)
    | _ => none
  | .iff c a b, r => match evE C c r with
    | some (.fr (.bool true), r1) => evB C a r1
    | some (.fr (.bool false), r1) => evB C b r1
    | _ => none
  | .fo t it b kill, r => match evI C it r with
    | some (xs, hs, r1) =>
      if hs.all (fun i => !(t.st ++ b.st).contains i) then
        match forL (fun x r => match asgT t x r with
          | some r2 => evB C b r2
          | none => none) kill xs (killS (hide r1 hs) kill) with
        | some q => some (backR r1 hs q)
        | none => none
      else none
    | none => none
  | .wh c b kill, r => whileL (evE C c) (evB C b) kill TURNS (killS r kill)
  | .tr b, r => evB C b r
  | .rs _, _ => none
  | .tx i j hs b, r => match evB C b r with
    | some q => some q
    | none => match xB C b r with
      | some (c, r1) => if hs.contains c = true ∧ i < r1.length ∧ i ≠ j then some (.nx ((r1.set j .no).set i (.ex c))) else none
      | none => none
  | .nv, _ => none
def evB (C : Call) : Ss → Env → Option Rs
  | .nil, r => some (.nx r)
  | .cons s q, r => match evS C s r with
    | some (.nx r1) => evB C q r1
    | some (.rt w r1) => some (.rt w r1)
    | none => none
/-- a statement that raises -/
def xS (C : Call) : S → Env → Option (Str × Env)
  | .as _ e, r => xE C e r
  | .ex e, r => xE C e r
  | .rt e, r => xE C e r
  | .rs c, r => some (c, r)
  | .iff c a b, r => match evE C c r with
    | some (.fr (.bool true), r1) => xB C a r1
    | some (.fr (.bool false), r1) => xB C b r1
    | _ => none
  | _, _ => none
def xB (C : Call) : Ss → Env → Option (Str × Env)
  | .nil, _ => none
  | .cons s q, r => match evS C s r with
    | some (.nx r1) => xB C q r1
    | some (.rt _ _) => none
    | none => xS C s r
end
/-- lent parameters behind the call, nothing of the others -/
def finals : List Sl → List Sl → List Sl
  | .ow _ :: ws, f :: fs => f :: finals ws fs
  | _ :: ws, _ :: fs => .no :: finals ws fs
  | _, _ => []
def lentOk (asg : List Nat) : Nat → List Sl → Bool
  | _, [] => true
  | i, .ow _ :: ws => !asg.contains i && lentOk asg (i + 1) ws
  | i, _ :: ws => lentOk asg (i + 1) ws
def runFn (C : Call) (f : Fn) (ws : List Sl) : Option (Sl × List Sl) :=
  if ws.length = f.np then
    if lentOk f.asg 0 ws then
      match evB C f.body (ws ++ List.replicate (f.ns - f.np) .no) with
      | some (.rt w r) => if isV w && decide (f.np ≤ r.length) then some (w, finals ws r) else none
      | some (.nx r) => if f.np ≤ r.length then some (.fr .none, finals ws r) else none
      | none => match xB C f.body (ws ++ List.replicate (f.ns - f.np) .no) with
        | some (c, _) => some (.rz c, [])
        | none => none
    else none
  else none
def callN (P : List Fn) : Nat → Call
  | 0 => fun _ _ => none
  | n + 1 => fun f ws => match P[f]? with
    | some fn => runFn (callN P n) fn ws
    | none => none
end Bx

set_option Elab.async false
set_option linter.all false
set_option maxRecDepth 100000
set_option autoImplicit false
set_option maxHeartbeats 1000000
/-! The evaluator and the model: what a value stands for in the abstract heap; what may change. -/
namespace Bx
open PySem PySem.Spec PyProof.Rows L2

abbrev SG := L2.St
/-- a dict whose keys are tuples, by its one object -/
def DN (a : Addr) (o : Obj) : HO := .ext fun h => h.get? a = some o
/-- the object's entries -/
def Ent (o : Obj) (xs : List (PySem.NestedKey × Addr × Value)) : Prop := o.ExactDict ∧ ∃ es ep, o.data = .dict es ep ∧ ∀ w : World, es.toList = xs.map fun x => (⟨x.1.hash w, .ref x.2.1, x.2.2⟩ : DictEntry)
structure DNk (H : Hp) (a : Addr) (o : Obj) (xs : List (PySem.NestedKey × Addr × Value)) : Prop where
  rd : Rd H a (DN a o)
  ent : Ent o xs
  sys : (a == sysModules) = false
  nd : (xs.map fun x => x.1).Nodup
  sz : xs.length ≤ sizeLine
/-- .. of one's own: never empty -/
structure DNz (H : Hp) (a : Addr) (o : Obj) (xs : List (PySem.NestedKey × Addr × Value)) (kvs : List (PyData × PyData)) : Prop where
  n : DNk H a o xs
  ne : kvs ≠ []
theorem DNz.ent {H : Hp} {a : Addr} {o : Obj} {xs : List (PySem.NestedKey × Addr × Value)} {kvs : List (PyData × PyData)} (z : DNz H a o xs kvs) : Ent o xs := z.n.ent
theorem DNz.to {H H' : Hp} {a : Addr} {o : Obj} {xs : List (PySem.NestedKey × Addr × Value)} {kvs : List (PyData × PyData)} (z : DNz H a o xs kvs) (rd : Rd H' a (DN a o)) : DNz H' a o xs kvs := ⟨⟨rd, z.n.ent, z.n.sys, z.n.nd, z.n.sz⟩, z.ne⟩
mutual
/-- v stands for the data d in the abstract heap H -/
def Rp (K : PySem.W.Frag) (H : Hp) : PyData → V → Prop
  | .none, v => v = .non
  | .bool b, v => v = .bl b
  | .int i, v => v = .int i
  | .str s, v => v = .str s
  | .list xs, v => ∃ a vs, v = .ref a ∧ SqL K H a vs ∧ RpA K H xs vs
  | .tuple xs, v => ∃ a vs, v = .ref a ∧ SqT K H a vs ∧ RpA K H xs vs
  | .dict kvs, v => ∃ a, v = .ref a ∧ ((∃ kv, Rd H a (.dK kv) ∧ RpK K H kvs kv) ∨ ∃ o xs, DNk H a o xs ∧ RpN K H kvs xs)
def RpA (K : PySem.W.Frag) (H : Hp) : List PyData → List V → Prop
  | [], vs => vs = []
  | x :: xs, vs => ∃ v r, vs = v :: r ∧ Rp K H x v ∧ RpA K H xs r
def RpK (K : PySem.W.Frag) (H : Hp) : List (PyData × PyData) → List (L2.Key × V) → Prop
  | [], vs => vs = []
  | (k, x) :: xs, vs => ∃ q v r, vs = (q, v) :: r ∧ keyD k = some q ∧ Rp K H x v ∧ RpK K H xs r
def RpN (K : PySem.W.Frag) (H : Hp) : List (PyData × PyData) → List (PySem.NestedKey × Addr × Value) → Prop
  | [], vs => vs = []
  | (k, x) :: xs, vs => ∃ q b u v r, vs = (q, b, u) :: r ∧ topKey k = some q ∧ Rp K H k (.ref b) ∧ RelV v u ∧ Rp K H x v ∧ RpN K H xs r
end
section
variable {K : PySem.W.Frag} {F F' H H' : Hp}
theorem SqL.mono (h : Same F F') {a : Addr} {xs : List V} (q : SqL K F a xs) : SqL K F' a xs := h.seq q
theorem SqT.mono (h : Same F F') {a : Addr} {xs : List V} (q : SqT K F a xs) : SqT K F' a xs := by
  rcases q with (q | ⟨o, q⟩) | q
  · exact .inl (.inl (h _ _ q))
  · exact .inl (.inr ⟨o, h _ _ q⟩)
  · exact .inr q
theorem Rd.mono (h : Same F F') {a : Addr} {u : HO} (q : Rd F a u) : Rd F' a u := by
  rcases q with q | ⟨o, q⟩
  · exact .inl (h _ _ q)
  · exact .inr ⟨o, h _ _ q⟩
mutual
theorem Rp.mono (h : Same F F') : ∀ (d : PyData) (v : V), Rp K F d v → Rp K F' d v
  | .none, _, q => by simpa [Rp] using q
  | .bool _, _, q => by simpa [Rp] using q
  | .int _, _, q => by simpa [Rp] using q
  | .str _, _, q => by simpa [Rp] using q
  | .list xs, v, q => by
    unfold Rp at q ⊢
    obtain ⟨a, vs, e, s, r⟩ := q
    exact ⟨a, vs, e, SqL.mono h s, RpA.mono h xs vs r⟩
  | .tuple xs, v, q => by
    unfold Rp at q ⊢
    obtain ⟨a, vs, e, s, r⟩ := q
    exact ⟨a, vs, e, SqT.mono h s, RpA.mono h xs vs r⟩
  | .dict kvs, v, q => by
    unfold Rp at q ⊢
    obtain ⟨a, e, q⟩ := q
    refine ⟨a, e, ?_⟩
    rcases q with ⟨vs, s, r⟩ | ⟨o, vs, s, r⟩
    · exact .inl ⟨vs, Rd.mono h s, RpK.mono h kvs vs r⟩
    · exact .inr ⟨o, vs, ⟨Rd.mono h s.rd, s.ent, s.sys, s.nd, s.sz⟩, RpN.mono h kvs vs r⟩
theorem RpA.mono (h : Same F F') : ∀ (ds : List PyData) (vs : List V), RpA K F ds vs → RpA K F' ds vs
  | [], _, q => by simpa [RpA] using q
  | x :: xs, vs, q => by
    unfold RpA at q ⊢
    obtain ⟨v, r, e, a, b⟩ := q
    exact ⟨v, r, e, Rp.mono h x v a, RpA.mono h xs r b⟩
theorem RpK.mono (h : Same F F') : ∀ (ds : List (PyData × PyData)) (vs : List (L2.Key × V)), RpK K F ds vs → RpK K F' ds vs
  | [], _, q => by simpa [RpK] using q
  | (k, x) :: xs, vs, q => by
    unfold RpK at q ⊢
    obtain ⟨p, v, r, e, z, a, b⟩ := q
    exact ⟨p, v, r, e, z, Rp.mono h x v a, RpK.mono h xs r b⟩
theorem RpN.mono (h : Same F F') : ∀ (ds : List (PyData × PyData)) (vs : List (PySem.NestedKey × Addr × Value)), RpN K F ds vs → RpN K F' ds vs
  | [], _, q => by simpa [RpN] using q
  | (k, x) :: xs, vs, q => by
    unfold RpN at q ⊢
    obtain ⟨p, b, u, v, r, e, z, a0, ru, a, b2⟩ := q
    exact ⟨p, b, u, v, r, e, z, Rp.mono h k _ a0, ru, Rp.mono h x v a, RpN.mono h xs r b2⟩
end
mutual
/-- flat data lean on tuples alone -/
theorem Rp.flatTo (h : ∀ a xs, SqT K F a xs → SqT K F' a xs) : ∀ (d : PyData) (v : V), flat d = true → Rp K F d v → Rp K F' d v
  | .none, _, _, q => by simpa [Rp] using q
  | .bool _, _, _, q => by simpa [Rp] using q
  | .int _, _, _, q => by simpa [Rp] using q
  | .str _, _, _, q => by simpa [Rp] using q
  | .list xs, v, f, q => by simp [flat] at f
  | .tuple xs, v, f, q => by
    unfold Rp at q ⊢
    obtain ⟨a, vs, e, s, r⟩ := q
    exact ⟨a, vs, e, h _ _ s, RpA.flatTo h xs vs (by simpa [flat] using f) r⟩
  | .dict kvs, v, f, q => by simp [flat] at f
theorem RpA.flatTo (h : ∀ a xs, SqT K F a xs → SqT K F' a xs) : ∀ (ds : List PyData) (vs : List V), flatAll ds = true → RpA K F ds vs → RpA K F' ds vs
  | [], _, _, q => by simpa [RpA] using q
  | x :: xs, vs, f, q => by
    unfold RpA at q ⊢
    obtain ⟨v, r, e, a, b⟩ := q
    have f' : flat x = true ∧ flatAll xs = true := by simpa [flatAll] using f
    exact ⟨v, r, e, Rp.flatTo h x v f'.1 a, RpA.flatTo h xs r f'.2 b⟩
end
theorem RpA.nil : RpA K H [] [] := by simp [RpA]
theorem RpA.cons {d : PyData} {ds : List PyData} {v : V} {vs : List V} (h : Rp K H d v) (t : RpA K H ds vs) : RpA K H (d :: ds) (v :: vs) := by
  unfold RpA
  exact ⟨v, vs, rfl, h, t⟩
theorem RpA.len : ∀ {ds : List PyData} {vs : List V}, RpA K H ds vs → ds.length = vs.length
  | [], vs, q => by
    unfold RpA at q
    subst q
    rfl
  | x :: xs, vs, q => by
    unfold RpA at q
    obtain ⟨v, r, rfl, a, b⟩ := q
    rw [List.length_cons, List.length_cons, RpA.len b]
theorem RpA.at : ∀ {ds : List PyData} {vs : List V} {i : Nat} {d : PyData}, RpA K H ds vs → ds[i]? = some d → ∃ v, vs[i]? = some v ∧ Rp K H d v
  | [], vs, i, d, q, e => by simp at e
  | x :: xs, vs, 0, d, q, e => by
    unfold RpA at q
    obtain ⟨v, r, rfl, a, b⟩ := q
    simp at e
    subst e
    exact ⟨v, rfl, a⟩
  | x :: xs, vs, i + 1, d, q, e => by
    unfold RpA at q
    obtain ⟨v, r, rfl, a, b⟩ := q
    obtain ⟨w, h1, h2⟩ := RpA.at (i := i) b (by simpa using e)
    exact ⟨w, by simpa using h1, h2⟩
theorem RpA.atV : ∀ {ds : List PyData} {vs : List V} {i : Nat} {v : V}, RpA K H ds vs → vs[i]? = some v → ∃ d, ds[i]? = some d ∧ Rp K H d v := fun {ds vs i v} q e => by
  have hl := q.len
  obtain ⟨h, he⟩ := List.getElem?_eq_some_iff.mp e
  have h' : i < ds.length := by omega
  obtain ⟨w, h1, h2⟩ := q.at (List.getElem?_eq_getElem h')
  rw [e] at h1
  cases h1
  exact ⟨_, List.getElem?_eq_getElem h', h2⟩
theorem RpA.app : ∀ {ds es : List PyData} {vs ws : List V}, RpA K H ds vs → RpA K H es ws → RpA K H (ds ++ es) (vs ++ ws)
  | [], es, vs, ws, q, p => by
    unfold RpA at q
    subst q
    exact p
  | x :: xs, es, vs, ws, q, p => by
    unfold RpA at q
    obtain ⟨v, r, rfl, a, b⟩ := q
    exact RpA.cons a (RpA.app b p)
theorem RpA.take : ∀ {ds : List PyData} {vs : List V} (n : Nat), RpA K H ds vs → RpA K H (ds.take n) (vs.take n)
  | ds, vs, 0, q => by simpa using RpA.nil
  | [], vs, n + 1, q => by
    unfold RpA at q
    subst q
    exact RpA.nil
  | x :: xs, vs, n + 1, q => by
    unfold RpA at q
    obtain ⟨v, r, rfl, a, b⟩ := q
    exact RpA.cons a (RpA.take n b)
theorem RpA.drop : ∀ {ds : List PyData} {vs : List V} (n : Nat), RpA K H ds vs → RpA K H (ds.drop n) (vs.drop n)
  | ds, vs, 0, q => q
  | [], vs, n + 1, q => by
    unfold RpA at q
    subst q
    exact RpA.nil
  | x :: xs, vs, n + 1, q => by
    unfold RpA at q
    obtain ⟨v, r, rfl, a, b⟩ := q
    exact RpA.drop n b
theorem RpA.set : ∀ {ds : List PyData} {vs : List V} (i : Nat) {d : PyData} {v : V}, RpA K H ds vs → Rp K H d v → RpA K H (ds.set i d) (vs.set i v)
  | [], vs, i, d, v, q, p => by
    unfold RpA at q
    subst q
    exact RpA.nil
  | x :: xs, vs, 0, d, v, q, p => by
    unfold RpA at q
    obtain ⟨w, r, rfl, a, b⟩ := q
    exact RpA.cons p b
  | x :: xs, vs, i + 1, d, v, q, p => by
    unfold RpA at q
    obtain ⟨w, r, rfl, a, b⟩ := q
    exact RpA.cons a (RpA.set i b p)
theorem RpA.rev {ds : List PyData} {vs : List V} (q : RpA K H ds vs) : RpA K H ds.reverse vs.reverse := by
  induction ds generalizing vs with
  | nil =>
    unfold RpA at q
    subst q
    exact RpA.nil
  | cons x xs ih =>
    unfold RpA at q
    obtain ⟨w, r, rfl, a, b⟩ := q
    rw [List.reverse_cons, List.reverse_cons]
    exact RpA.app (ih b) (RpA.cons a RpA.nil)
theorem RpA.dropLast {ds : List PyData} {vs : List V} (q : RpA K H ds vs) : RpA K H ds.dropLast vs.dropLast := by
  rw [List.dropLast_eq_take, List.dropLast_eq_take, q.len]
  exact q.take _
theorem RpA.ints : ∀ {ds : List PyData} {vs : List V} {ns : List Int}, RpA K H ds vs → intsOf ds = some ns → vs = ns.map V.int
  | [], vs, ns, q, e => by
    unfold RpA at q
    subst q
    simp [intsOf] at e
    subst e
    rfl
  | x :: xs, vs, ns, q, e => by
    unfold RpA at q
    obtain ⟨w, r, rfl, a, b⟩ := q
    cases x with
    | int i =>
      simp only [intsOf] at e
      cases h : intsOf xs with
      | none => rw [h] at e; cases e
      | some l =>
        rw [h] at e
        cases e
        unfold Rp at a
        subst a
        rw [RpA.ints b h]
        rfl
    | _ => simp [intsOf] at e
theorem RpA.bools : ∀ {ds : List PyData} {vs : List V} {ns : List Bool}, RpA K H ds vs → boolsOf ds = some ns → vs = ns.map V.bl
  | [], vs, ns, q, e => by
    unfold RpA at q
    subst q
    simp [boolsOf] at e
    subst e
    rfl
  | x :: xs, vs, ns, q, e => by
    unfold RpA at q
    obtain ⟨w, r, rfl, a, b⟩ := q
    cases x with
    | bool i =>
      simp only [boolsOf] at e
      cases h : boolsOf xs with
      | none => rw [h] at e; cases e
      | some l =>
        rw [h] at e
        cases e
        unfold Rp at a
        subst a
        rw [RpA.bools b h]
        rfl
    | _ => simp [boolsOf] at e
end

/-! ### dicts -/
section
variable {K : PySem.W.Frag} {F : Hp}
theorem RpK.len : ∀ {kvs : List (PyData × PyData)} {kv : List (L2.Key × V)}, RpK K F kvs kv → kvs.length = kv.length
  | [], kv, q => by unfold RpK at q; subst q; rfl
  | (k, x) :: kvs, kv, q => by
    unfold RpK at q
    obtain ⟨p, v, r, rfl, _, _, h⟩ := q
    rw [List.length_cons, List.length_cons, RpK.len h]
theorem RpK.get : ∀ {kvs : List (PyData × PyData)} {kv : List (L2.Key × V)} {q : L2.Key}, RpK K F kvs kv → (∀ d, dGet kvs q = some d → ∃ v, valV kv q = some v ∧ Rp K F d v) ∧ (dGet kvs q = none → valV kv q = none)
  | [], kv, q, h => by
    unfold RpK at h
    subst h
    exact ⟨fun d e => (by cases e), fun _ => rfl⟩
  | (k, x) :: kvs, kv, q, h => by
    unfold RpK at h
    obtain ⟨p, v, r, rfl, e, rx, h⟩ := h
    have ih := RpK.get (q := q) h
    unfold dGet
    by_cases hq : p = q
    · subst hq
      rw [if_pos e]
      refine ⟨fun d z => ?_, fun z => (by cases z)⟩
      cases z
      exact ⟨v, valV_pos rfl, rx⟩
    · rw [if_neg fun z => hq (Option.some.inj (e.symm.trans z))]
      rw [valV_neg hq]
      exact ih
theorem RpK.any : ∀ {kvs : List (PyData × PyData)} {kv : List (L2.Key × V)} {q : L2.Key}, RpK K F kvs kv → (kvs.any fun x => decide (keyD x.1 = some q)) = (kv.any fun x => decide (x.1 = q))
  | [], kv, q, h => by
    unfold RpK at h
    subst h
    rfl
  | (k, x) :: kvs, kv, q, h => by
    unfold RpK at h
    obtain ⟨p, v, r, rfl, e, rx, h⟩ := h
    rw [List.any_cons, List.any_cons, RpK.any h]
    congr 1
    rw [e]
    exact decide_eq_decide.mpr ⟨fun z => Option.some.inj z, fun z => congrArg some z⟩
theorem RpK.mapP : ∀ {kvs : List (PyData × PyData)} {kv : List (L2.Key × V)} {q : L2.Key} {d : PyData} {v : V}, RpK K F kvs kv → Rp K F d v → RpK K F (kvs.map fun x => if keyD x.1 = some q then (x.1, d) else x) (kv.map fun x => if x.1 = q then (x.1, v) else x)
  | [], kv, q, d, v, h, _ => by
    unfold RpK at h
    subst h
    simp [RpK]
  | (k, x) :: kvs, kv, q, d, v, h, hd => by
    unfold RpK at h
    obtain ⟨p, w, r, rfl, e, rx, h⟩ := h
    have ih := RpK.mapP (q := q) h hd
    rw [List.map_cons, List.map_cons]
    by_cases hq : p = q
    · rw [if_pos (by show keyD k = some q; rw [e, hq]), if_pos hq]
      unfold RpK
      exact ⟨p, v, _, rfl, e, hd, ih⟩
    · rw [if_neg (show ¬ keyD k = some q from fun z => hq (Option.some.inj (e.symm.trans z))), if_neg hq]
      unfold RpK
      exact ⟨p, w, _, rfl, e, rx, ih⟩
theorem RpK.app1 : ∀ {kvs : List (PyData × PyData)} {kv : List (L2.Key × V)} {k d : PyData} {q : L2.Key} {v : V}, RpK K F kvs kv → keyD k = some q → Rp K F d v → RpK K F (kvs ++ [(k, d)]) (kv ++ [(q, v)])
  | [], kv, k, d, q, v, h, e, hd => by
    unfold RpK at h
    subst h
    unfold RpK
    exact ⟨q, v, [], rfl, e, hd, by simp [RpK]⟩
  | (k', x) :: kvs, kv, k, d, q, v, h, e, hd => by
    unfold RpK at h
    obtain ⟨p, w, r, rfl, e', rx, h⟩ := h
    show RpK K F ((k', x) :: (kvs ++ [(k, d)])) ((p, w) :: (r ++ [(q, v)]))
    unfold RpK
    exact ⟨p, w, _, rfl, e', rx, RpK.app1 h e hd⟩
theorem RpK.put {kvs : List (PyData × PyData)} {kv : List (L2.Key × V)} {k d : PyData} {q : L2.Key} {v : V} (h : RpK K F kvs kv) (e : keyD k = some q) (hd : Rp K F d v) : RpK K F (dPut kvs k q d) (putK kv q v) := by
  unfold dPut putK
  rw [RpK.any h]
  by_cases c : (kv.any fun x => decide (x.1 = q)) = true
  · rw [if_pos c, if_pos c]
    exact RpK.mapP h hd
  · rw [if_neg c, if_neg c]
    exact RpK.app1 h e hd
theorem keyD_kV {k : PyData} {q : L2.Key} {v : V} (e : keyD k = some q) (h : Rp K F k v) : v = kV q := by
  cases k with
  | int i => cases e; exact h
  | str i => cases e; exact h
  | _ => cases e
end

section
variable {K : PySem.W.Frag} {F : Hp}
theorem top_tuple {k : PyData} {q : PySem.NestedKey} (e : topKey k = some q) : ∃ xs ks, k = .tuple xs ∧ nkeys xs = some ks ∧ q = .tup ks ∧ (PySem.NestedKey.tup ks).depth ≤ 8 := by
  unfold topKey at e
  split at e
  · split at e
    · split at e
      · cases e; exact ⟨_, _, rfl, by assumption, rfl, by assumption⟩
      · cases e
    · cases e
  · cases e
theorem top_keyD {k : PyData} {q : PySem.NestedKey} (e : topKey k = some q) : keyD k = none := by
  obtain ⟨xs, ks, rfl, _⟩ := top_tuple e
  rfl
theorem keyD_top {k : PyData} {q : L2.Key} (e : keyD k = some q) : topKey k = none := by
  cases k <;> first | rfl | cases e
theorem RpN.dGet : ∀ {kvs : List (PyData × PyData)} {xs : List (PySem.NestedKey × Addr × Value)} (q : L2.Key), RpN K F kvs xs → Bx.dGet kvs q = none
  | [], xs, q, h => rfl
  | (k, x) :: kvs, xs, q, h => by
    unfold RpN at h
    obtain ⟨p, b, u, v, r, rfl, e, _, _, _, h⟩ := h
    unfold Bx.dGet
    rw [if_neg (by rw [top_keyD e]; nofun)]
    exact RpN.dGet q h
theorem RpK.head {kvs : List (PyData × PyData)} {kv : List (L2.Key × V)} (h : RpK K F kvs kv) : headN kvs = false := by
  cases kvs with
  | nil => rfl
  | cons p kvs =>
    obtain ⟨k, x⟩ := p
    unfold RpK at h
    obtain ⟨q, v, r, rfl, e, _⟩ := h
    show (topKey k).isSome = false
    rw [keyD_top e]
    rfl
theorem RpK.dGetN : ∀ {kvs : List (PyData × PyData)} {kv : List (L2.Key × V)} (q : PySem.NestedKey), RpK K F kvs kv → Bx.dGetN kvs q = none
  | [], xs, q, h => rfl
  | (k, x) :: kvs, xs, q, h => by
    unfold RpK at h
    obtain ⟨p, v, r, rfl, e, _, h⟩ := h
    unfold Bx.dGetN
    rw [if_neg (by rw [keyD_top e]; nofun)]
    exact RpK.dGetN q h
theorem RpN.get : ∀ {kvs : List (PyData × PyData)} {xs : List (PySem.NestedKey × Addr × Value)} {q : PySem.NestedKey}, RpN K F kvs xs → (∀ d, Bx.dGetN kvs q = some d → ∃ b u v, PySem.atKey xs q = some (b, u) ∧ RelV v u ∧ Rp K F d v) ∧ (Bx.dGetN kvs q = none → PySem.atKey xs q = none)
  | [], xs, q, h => by
    unfold RpN at h
    subst h
    exact ⟨fun d e => (by cases e), fun _ => rfl⟩
  | (k, x) :: kvs, xs, q, h => by
    unfold RpN at h
    obtain ⟨p, b, u, v, r, rfl, e, _, ru, rx, h⟩ := h
    have ih := RpN.get (q := q) h
    unfold Bx.dGetN
    by_cases hq : p = q
    · subst hq
      rw [if_pos e]
      have ea : PySem.atKey ((p, b, u) :: r) p = some (b, u) := by simp [PySem.atKey]
      exact ⟨fun d z => by cases z; exact ⟨b, u, v, ea, ru, rx⟩, fun z => by cases z⟩
    · have ne : ¬ topKey k = some q := fun z => hq (by rw [e] at z; exact Option.some.inj z)
      rw [if_neg ne]
      have ea : PySem.atKey ((p, b, u) :: r) q = PySem.atKey r q := by simp [PySem.atKey, List.find?_cons, hq]
      rw [ea]
      exact ih
theorem RpN.len : ∀ {kvs : List (PyData × PyData)} {xs : List (PySem.NestedKey × Addr × Value)}, RpN K F kvs xs → kvs.length = xs.length
  | [], xs, h => by unfold RpN at h; subst h; rfl
  | (k, x) :: kvs, xs, h => by
    unfold RpN at h
    obtain ⟨p, b, u, v, r, rfl, _, _, _, _, h⟩ := h
    rw [List.length_cons, List.length_cons, RpN.len h]
theorem RpN.app1 : ∀ {kvs : List (PyData × PyData)} {xs : List (PySem.NestedKey × Addr × Value)} {k d : PyData} {q : PySem.NestedKey} {b : Addr} {u : Value} {v : V}, RpN K F kvs xs → topKey k = some q → Rp K F k (.ref b) → RelV v u → Rp K F d v → RpN K F (kvs ++ [(k, d)]) (xs ++ [(q, b, u)])
  | [], xs, k, d, q, b, u, v, h, e, hk, ru, hd => by
    unfold RpN at h
    subst h
    simp only [List.nil_append]
    unfold RpN
    exact ⟨q, b, u, v, [], rfl, e, hk, ru, hd, by simp [RpN]⟩
  | (k', x) :: kvs, xs, k, d, q, b, u, v, h, e, hk, ru, hd => by
    unfold RpN at h
    obtain ⟨p, b', u', v', r, rfl, z1, z2, z3, z4, h⟩ := h
    simp only [List.cons_append]
    unfold RpN
    exact ⟨p, b', u', v', r ++ [(q, b, u)], rfl, z1, z2, z3, z4, RpN.app1 h e hk ru hd⟩
theorem RpN.mapP : ∀ {kvs : List (PyData × PyData)} {xs : List (PySem.NestedKey × Addr × Value)} {d : PyData} {q : PySem.NestedKey} {u : Value} {v : V}, RpN K F kvs xs → RelV v u → Rp K F d v → RpN K F (kvs.map fun kv => if topKey kv.1 = some q then (kv.1, d) else kv) (xs.map (PySem.putAt q u))
  | [], xs, d, q, u, v, h, ru, hd => by
    unfold RpN at h
    subst h
    simp [RpN]
  | (k', x) :: kvs, xs, d, q, u, v, h, ru, hd => by
    unfold RpN at h
    obtain ⟨p, b', u', v', r, rfl, z1, z2, z3, z4, h⟩ := h
    have ih := RpN.mapP (q := q) h ru hd
    rw [List.map_cons, List.map_cons]
    by_cases hq : p = q
    · subst hq
      have e1 : (if topKey (k', x).1 = some p then ((k', x).1, d) else (k', x)) = (k', d) := if_pos z1
      have e2 : PySem.putAt p u (p, b', u') = (p, b', u) := by simp [PySem.putAt]
      rw [e1, e2]
      unfold RpN
      exact ⟨p, b', u, v, _, rfl, z1, z2, ru, hd, ih⟩
    · have ne : ¬ topKey k' = some q := fun z => hq (by rw [z1] at z; exact Option.some.inj z)
      have e1 : (if topKey (k', x).1 = some q then ((k', x).1, d) else (k', x)) = (k', x) := if_neg ne
      have e2 : PySem.putAt q u (p, b', u') = (p, b', u') := by simp [PySem.putAt, hq]
      rw [e1, e2]
      unfold RpN
      exact ⟨p, b', u', v', _, rfl, z1, z2, z3, z4, ih⟩
theorem RpN.put {kvs : List (PyData × PyData)} {xs : List (PySem.NestedKey × Addr × Value)} {k d : PyData} {q : PySem.NestedKey} {b : Addr} {u : Value} {v : V} (h : RpN K F kvs xs) (e : topKey k = some q) (hk : Rp K F k (.ref b)) (ru : RelV v u) (hd : Rp K F d v) : RpN K F (dPutN kvs k q d) (PySem.storedH xs q b u) := by
  have g := RpN.get (q := q) h
  unfold dPutN PySem.storedH
  cases c : Bx.dGetN kvs q with
  | some x =>
    obtain ⟨b2, u2, v2, ea, _⟩ := g.1 x c
    rw [ea]
    exact RpN.mapP h ru hd
  | none =>
    rw [g.2 c]
    exact RpN.app1 h e hk ru hd
theorem put_ne {kvs : List (PyData × PyData)} {k d : PyData} {q : PySem.NestedKey} : dPutN kvs k q d ≠ [] := by
  unfold dPutN
  split
  · rename_i h
    cases kvs with
    | nil => cases h
    | cons a l => simp
  · simp
theorem RpN.merge : ∀ {prs : List (PyData × PyData)} {ps : List (PySem.NestedKey × Addr × Value)} {acc : List (PyData × PyData)} {xacc : List (PySem.NestedKey × Addr × Value)}, RpN K F prs ps → RpN K F acc xacc → RpN K F (dMergeN acc prs) (PySem.storedAllH xacc ps)
  | [], ps, acc, xacc, h, ha => by
    unfold RpN at h
    subst h
    exact ha
  | (k, d) :: prs, ps, acc, xacc, h, ha => by
    unfold RpN at h
    obtain ⟨q, b, u, v, r, rfl, e, hk, ru, h1, h2⟩ := h
    unfold dMergeN
    rw [e]
    show RpN K F (dMergeN (dPutN acc k q d) prs) (PySem.storedAllH (PySem.storedH xacc q b u) r)
    exact RpN.merge h2 (RpN.put ha e hk ru h1)
end
theorem merge_ne : ∀ {prs : List (PyData × PyData)} {acc : List (PyData × PyData)}, acc ≠ [] → dMergeN acc prs ≠ []
  | [], acc, h => h
  | (k, d) :: prs, acc, h => by
    unfold dMergeN
    split
    · exact merge_ne put_ne
    · exact h
theorem RpN.merge_ne {K : PySem.W.Frag} {F : Hp} {prs : List (PyData × PyData)} {ps : List (PySem.NestedKey × Addr × Value)} (h : RpN K F prs ps) (ne : prs.isEmpty = false) : dMergeN [] prs ≠ [] := by
  cases prs with
  | nil => cases ne
  | cons p prs =>
    obtain ⟨k, d⟩ := p
    unfold RpN at h
    obtain ⟨q, b, u, v, r, rfl, e, _⟩ := h
    unfold dMergeN
    rw [e]
    exact Bx.merge_ne put_ne
/-! ### owned things, worlds -/
def OwnAt (K : PySem.W.Frag) (F H : Hp) (d : PyData) (a : Addr) : Prop := F a = none ∧ match d with
  | .list xs => ∃ vs, H a = some (.lst vs) ∧ RpA K F xs vs
  | .dict kvs => (∃ kv, H a = some (.dK kv) ∧ RpK K F kvs kv) ∨ ∃ o xs, H a = some (DN a o) ∧ DNz H a o xs kvs ∧ RpN K F kvs xs
  | _ => False
theorem OwnAt.some {K : PySem.W.Frag} {F H : Hp} {d : PyData} {a : Addr} (h : OwnAt K F H d a) : ∃ o, H a = some o := by
  obtain ⟨_, h⟩ := h
  cases d with
  | list xs => obtain ⟨vs, e, _⟩ := h; exact ⟨_, e⟩
  | dict kvs =>
    rcases h with ⟨vs, e, _⟩ | ⟨o, vs, e, _⟩
    · exact ⟨_, e⟩
    · exact ⟨_, e⟩
  | _ => exact h.elim
/-- at a: a caught exception of the program's class c, without a dict -/
def ExH (K : PySem.W.Frag) (c : Str) (a : Addr) : HO := .ext fun h => ∃ (oe : Obj) (vs : Array Value), h.get? a = some oe ∧ Zc (.ref (He.ga K c)) none oe ∧ oe.data = .fields vs
def SlOk (K : PySem.W.Frag) (F H : Hp) (σ : SG) (i : Nat) : Sl → Prop
  | .no => True
  | .fr d => ∃ v, σ[i]? = some (some v) ∧ Rp K F d v
  | .ow d => ∃ a, σ[i]? = some (some (V.ref a)) ∧ OwnAt K F H d a
  | .ex C => ∃ a, σ[i]? = some (some (V.ref a)) ∧ F a = some (ExH K C a)
  | _ => False
/-- a slot's own object -/
def Own (r : Env) (σ : SG) (a : Addr) : Prop := ∃ (i : Nat) (d : PyData), r[i]? = some (Sl.ow d) ∧ σ[i]? = some (some (V.ref a))
structure Wd (K : PySem.W.Frag) (F H : Hp) (r : Env) (σ : SG) : Prop where
  le : Same F H
  len : r.length = σ.length
  sl : ∀ (i : Nat) (w : Sl), r[i]? = some w → SlOk K F H σ i w
  inj : ∀ (i j : Nat) (d d' : PyData) (a : Addr), r[i]? = some (Sl.ow d) → r[j]? = some (Sl.ow d') → σ[i]? = some (some (V.ref a)) → σ[j]? = some (some (V.ref a)) → i = j
theorem Wd.own {K : PySem.W.Frag} {F H : Hp} {r : Env} {σ : SG} {a : Addr} (w : Wd K F H r σ) (h : Own r σ a) : F a = none ∧ ∃ o, H a = some o := by
  obtain ⟨i, d, h1, h2⟩ := h
  obtain ⟨b, e, q⟩ := w.sl i _ h1
  rw [h2] at e
  cases e
  exact ⟨q.1, q.some⟩
/-- from (F, H) to (F', H'): what is frozen stays, more is frozen of what was new or owned, all else but the owned stays -/
structure Fr (O : Addr → Prop) (F H F' H' : Hp) : Prop where
  ff : Same F F'
  new : ∀ a o, F' a = some o → F a = some o ∨ (F a = none ∧ (O a ∨ H a = none))
  hh : ∀ a o, H a = some o → ¬ O a → H' a = some o
abbrev noO : Addr → Prop := fun _ => False
section
variable {K : PySem.W.Frag} {O O1 : Addr → Prop} {F H F1 H1 F2 H2 : Hp}
theorem Fr.refl : Fr O F H F H := ⟨Same.refl _, fun _ _ h => .inl h, fun _ _ h _ => h⟩
theorem Fr.trans (a : Fr O F H F1 H1) (b : Fr O1 F1 H1 F2 H2) (h : ∀ c, O1 c → O c ∨ H c = none) : Fr O F H F2 H2 := by
  refine ⟨a.ff.trans b.ff, fun c o e => ?_, fun c o e n => ?_⟩
  · rcases b.new c o e with q | ⟨q, z⟩
    · exact a.new c o q
    · right
      refine ⟨a.ff.free q, ?_⟩
      rcases z with z | z
      · exact h c z
      · by_cases no : O c
        · exact .inl no
        · right
          cases k : H c with
          | none => rfl
          | some u => rw [a.hh c u k no] at z; cases z
  · refine b.hh c o (a.hh c o e n) fun q => ?_
    rcases h c q with z | z
    · exact n z
    · rw [e] at z; cases z
theorem Fr.weak (a : Fr O F H F1 H1) (h : ∀ c, O c → O1 c ∨ H c = none) : Fr O1 F H F1 H1 := Fr.trans Fr.refl a h
theorem Fr.up (a : Fr O F H F1 H1) {p : Addr} {o : HO} (hp : H1 p = none) : Fr O F H F1 (upd H1 p o) :=
  ⟨a.ff, a.new, fun c u e n => by rw [upd_ne (ne_of_none (a.hh c u e n) hp)]; exact a.hh c u e n⟩
theorem Fr.upF (a : Fr O F H F1 H1) (le : Same F1 H1) {p : Addr} {o : HO} (hp : H1 p = none) : Fr O F H (upd F1 p o) (upd H1 p o) := by
  have hF : F1 p = none := le.free hp
  refine ⟨fun c u e => by rw [upd_ne (ne_of_none (a.ff c u e) hF)]; exact a.ff c u e, fun c u e => ?_, fun c u e n => by rw [upd_ne (ne_of_none (a.hh c u e n) hp)]; exact a.hh c u e n⟩
  by_cases h : c = p
  · subst h
    right
    refine ⟨a.ff.free hF, ?_⟩
    by_cases no : O c
    · exact .inl no
    · right
      cases k : H c with
      | none => rfl
      | some u => rw [a.hh c u k no] at hp; cases hp
  · rw [upd_ne h] at e
    exact a.new c u e
theorem same_up {p : Addr} {o : HO} (hp : H p = none) : Same H (upd H p o) := fun c u e => by rw [upd_ne (ne_of_none e hp)]; exact e
theorem same_up2 (le : Same F H) {p : Addr} {o : HO} (hp : H p = none) : Same (upd F p o) (upd H p o) := fun c u e => by
  by_cases h : c = p
  · subst h; rw [upd_same] at e ⊢; exact e
  · rw [upd_ne h] at e ⊢; exact le c u e
/-- an owned thing carried on -/
theorem OwnAt.go {d : PyData} {a : Addr} (h : OwnAt K F H d a) (f : Fr O F H F1 H1) (n : ¬ O a) : OwnAt K F1 H1 d a := by
  obtain ⟨o, ho⟩ := h.some
  have hF : F1 a = none := by
    cases k : F1 a with
    | none => rfl
    | some u =>
      rcases f.new a u k with q | ⟨_, q⟩
      · rw [h.1] at q; cases q
      · rcases q with q | q
        · exact (n q).elim
        · rw [ho] at q; cases q
  refine ⟨hF, ?_⟩
  obtain ⟨_, h⟩ := h
  cases d with
  | list xs => obtain ⟨vs, e, q⟩ := h; exact ⟨vs, f.hh a _ e n, RpA.mono f.ff _ _ q⟩
  | dict kvs =>
    rcases h with ⟨vs, e, q⟩ | ⟨o, vs, e, s, q⟩
    · exact .inl ⟨vs, f.hh a _ e n, RpK.mono f.ff _ _ q⟩
    · exact .inr ⟨o, vs, f.hh a _ e n, s.to (.inl (f.hh a _ e n)), RpN.mono f.ff _ _ q⟩
  | _ => exact h.elim
end
/-- an owned thing, where another one is changed -/
theorem OwnAt.off {K : PySem.W.Frag} {F H : Hp} {d : PyData} {a p : Addr} {o : HO} (h : OwnAt K F H d a) (n : a ≠ p) : OwnAt K F (upd H p o) d a := by
  obtain ⟨z0, z⟩ := h
  refine ⟨z0, ?_⟩
  cases d with
  | list ys => obtain ⟨zs, z1, z2⟩ := z; exact ⟨zs, by rw [upd_ne n]; exact z1, z2⟩
  | dict ys =>
    rcases z with ⟨zs, z1, z2⟩ | ⟨u, zs, z1, z3, z2⟩
    · exact .inl ⟨zs, by rw [upd_ne n]; exact z1, z2⟩
    · have e : upd H p o a = Option.some (DN a u) := by rw [upd_ne n]; exact z1
      exact .inr ⟨u, zs, e, z3.to (.inl e), z2⟩
  | _ => exact z.elim
section
variable {K : PySem.W.Frag} {F H F1 H1 F2 H2 : Hp} {r r1 r2 : Env} {σ : SG}
/-- a world carried over what touches nothing owned -/
theorem Wd.go (w : Wd K F H r σ) (f : Fr noO F H F1 H1) (le : Same F1 H1) : Wd K F1 H1 r σ := by
  refine ⟨le, w.len, fun i x e => ?_, w.inj⟩
  have q := w.sl i x e
  cases x with
  | no => trivial
  | fr d => obtain ⟨v, e1, z⟩ := q; exact ⟨v, e1, Rp.mono f.ff _ _ z⟩
  | ow d => obtain ⟨a, e1, z⟩ := q; exact ⟨a, e1, z.go f id⟩
  | ex C => obtain ⟨a, e1, z⟩ := q; exact ⟨a, e1, f.ff _ _ z⟩
  | rz C => exact q.elim
  | lk i => exact q.elim
  | ln i => exact q.elim

/-- what a value stands for -/
def RpV (K : PySem.W.Frag) (F H : Hp) (r : Env) (σ : SG) : Sl → V → Prop
  | .no, _ => False
  | .fr d, v => Rp K F d v
  | .ow d, v => ∃ a, v = .ref a ∧ OwnAt K F H d a ∧ ¬ Own r σ a
  | .lk i, v => σ[i]? = some (some v)
  | .ln i, v => σ[i]? = some (some v)
  | .ex C, v => ∃ a, v = .ref a ∧ F a = some (ExH K C a)
  | .rz _, _ => False
/-- a value of one's own is new, or was a slot's -/
def Nw (r : Env) (σ : SG) (H : Hp) (w : Sl) (v : V) : Prop := match w with
  | .ow _ => ∀ a, v = .ref a → (H a = none ∨ Own r σ a)
  | _ => True
structure Pe (K : PySem.W.Frag) (F H : Hp) (r : Env) (σ : SG) (r' : Env) (w : Sl) (v : V) (F' H' : Hp) : Prop where
  fr : Fr (Own r σ) F H F' H'
  wd : Wd K F' H' r' σ
  sub : ∀ a, Own r' σ a → Own r σ a
  rp : RpV K F' H' r' σ w v
  nw : Nw r σ H w v
theorem RpV.go {w : Sl} {v : V} (q : RpV K F1 H1 r1 σ w v) (f : Fr (Own r1 σ) F1 H1 F2 H2) (sub : ∀ a, Own r2 σ a → Own r1 σ a) : RpV K F2 H2 r2 σ w v := by
  cases w with
  | no => exact q.elim
  | fr d => exact Rp.mono f.ff _ _ q
  | ow d => obtain ⟨a, e, z, n⟩ := q; exact ⟨a, e, z.go f n, fun k => n (sub a k)⟩
  | ex C => obtain ⟨a, e, z⟩ := q; exact ⟨a, e, f.ff _ _ z⟩
  | rz C => exact q.elim
  | lk i => exact q
  | ln i => exact q
/-- a value's evaluation, kept over a later one -/
theorem Pe.keep {w : Sl} {v : V} (p : Pe K F H r σ r1 w v F1 H1) (f : Fr (Own r1 σ) F1 H1 F2 H2) (wd : Wd K F2 H2 r2 σ) (sub : ∀ a, Own r2 σ a → Own r1 σ a) : Pe K F H r σ r2 w v F2 H2 :=
  ⟨p.fr.trans f fun c k => .inl (p.sub c k), wd, fun a k => p.sub a (sub a k), p.rp.go f sub, p.nw⟩

/-- a look: frozen data, or an owned thing -/
def Vw (K : PySem.W.Frag) (F H : Hp) (d : PyData) (v : V) : Prop := Rp K F d v ∨ ∃ a, v = .ref a ∧ OwnAt K F H d a
theorem see_ok {w : Sl} {v : V} {d : PyData} (wd : Wd K F H r σ) (q : RpV K F H r σ w v) (e : see r w = some d) : Vw K F H d v := by
  cases w with
  | no => exact q.elim
  | fr x => cases e; exact .inl q
  | ow x => cases e; obtain ⟨a, e1, z, _⟩ := q; exact .inr ⟨a, e1, z⟩
  | ex C => cases e
  | rz C => cases e
  | ln i => cases e
  | lk i =>
    simp only [see] at e
    cases h : r[i]? with
    | none => rw [h] at e; cases e
    | some x =>
      rw [h] at e
      have z := wd.sl i x h
      cases x with
      | fr y =>
        cases e
        obtain ⟨u, e1, z⟩ := z
        rw [show σ[i]? = some (some v) from q] at e1
        cases e1
        exact .inl z
      | ow y =>
        cases e
        obtain ⟨u, e1, z⟩ := z
        rw [show σ[i]? = some (some v) from q] at e1
        cases e1
        exact .inr ⟨u, rfl, z⟩
      | _ => cases e
theorem Vw.rp {d : PyData} {v : V} (le : Same F H) (q : Vw K F H d v) : Rp K H d v := by
  rcases q with q | ⟨a, rfl, _, q⟩
  · exact Rp.mono le _ _ q
  · cases d with
    | list xs => obtain ⟨vs, e, z⟩ := q; exact ⟨a, vs, rfl, .inl (.inl e), RpA.mono le _ _ z⟩
    | dict xs =>
      rcases q with ⟨vs, e, z⟩ | ⟨o, vs, e, s, z⟩
      · exact ⟨a, rfl, .inl ⟨vs, .inl e, RpK.mono le _ _ z⟩⟩
      · exact ⟨a, rfl, .inr ⟨o, vs, s.n, RpN.mono le _ _ z⟩⟩
    | _ => exact q.elim
theorem Vw.lst {xs : List PyData} {v : V} (le : Same F H) (q : Vw K F H (.list xs) v) : ∃ a vs, v = .ref a ∧ SqL K H a vs ∧ RpA K F xs vs := by
  rcases q with q | ⟨a, rfl, _, q⟩
  · obtain ⟨a, vs, e, s, z⟩ := (show ∃ a vs, v = .ref a ∧ SqL K F a vs ∧ RpA K F xs vs from q)
    exact ⟨a, vs, e, SqL.mono le s, z⟩
  · obtain ⟨vs, e, z⟩ := q
    exact ⟨a, vs, rfl, .inl (.inl e), z⟩
theorem Vw.tup {xs : List PyData} {v : V} (q : Vw K F H (.tuple xs) v) : ∃ a vs, v = .ref a ∧ SqT K F a vs ∧ RpA K F xs vs := by
  rcases q with q | ⟨a, rfl, _, q⟩
  · exact q
  · exact q.elim
theorem Vw.dct {xs : List (PyData × PyData)} {v : V} (le : Same F H) (q : Vw K F H (.dict xs) v) : ∃ a, v = .ref a ∧ ((∃ kv, L2.Rd H a (.dK kv) ∧ RpK K F xs kv) ∨ ∃ o kv, DNk H a o kv ∧ RpN K F xs kv) := by
  rcases q with q | ⟨a, rfl, _, q⟩
  · have q : ∃ a, v = .ref a ∧ ((∃ kv, L2.Rd F a (.dK kv) ∧ RpK K F xs kv) ∨ ∃ o kv, DNk F a o kv ∧ RpN K F xs kv) := q
    obtain ⟨a, e, q⟩ := q
    refine ⟨a, e, ?_⟩
    rcases q with ⟨kv, s, z⟩ | ⟨o, kv, s, z⟩
    · exact .inl ⟨kv, Rd.mono le s, z⟩
    · exact .inr ⟨o, kv, ⟨Rd.mono le s.rd, s.ent, s.sys, s.nd, s.sz⟩, z⟩
  · rcases q with ⟨kv, e, z⟩ | ⟨o, kv, e, s, z⟩
    · exact ⟨a, rfl, .inl ⟨kv, .inl e, z⟩⟩
    · exact ⟨a, rfl, .inr ⟨o, kv, s.n, z⟩⟩
theorem Vw.int {i : Int} {v : V} (q : Vw K F H (.int i) v) : v = .int i := by
  rcases q with q | ⟨a, rfl, _, q⟩
  · exact q
  · exact q.elim
theorem Vw.bool {i : Bool} {v : V} (q : Vw K F H (.bool i) v) : v = .bl i := by
  rcases q with q | ⟨a, rfl, _, q⟩
  · exact q
  · exact q.elim
theorem Vw.str {i : Str} {v : V} (q : Vw K F H (.str i) v) : v = .str i := by
  rcases q with q | ⟨a, rfl, _, q⟩
  · exact q
  · exact q.elim
theorem Vw.none {v : V} (q : Vw K F H .none v) : v = .non := by
  rcases q with q | ⟨a, rfl, _, q⟩
  · exact q
  · exact q.elim
def VwL (K : PySem.W.Frag) (F H : Hp) : List PyData → List V → Prop
  | [], vs => vs = []
  | d :: ds, vs => ∃ v r, vs = v :: r ∧ Vw K F H d v ∧ VwL K F H ds r

/-- what an operator gives, from (F, H) on -/
def Gv (K : PySem.W.Frag) (F H : Hp) (w : Sl) (v : V) (F' H' : Hp) : Prop := match w with
  | .fr d => Rp K F' d v
  | .ow d => ∃ a, v = .ref a ∧ OwnAt K F' H' d a ∧ H a = none
  | _ => False
def Res (K : PySem.W.Frag) (F H : Hp) (w : Sl) (Q : VK) : Prop := ∀ v F' H', Fr noO F H F' H' → Same F' H' → Gv K F H w v F' H' → Q v H'
theorem Res.same {d : PyData} {v : V} {Q : VK} (h : Res K F H (.fr d) Q) (le : Same F H) (q : Rp K F d v) : Q v H := h v F H Fr.refl le q
theorem Res.newL {xs : List PyData} {vs : List V} {p : Addr} {Q : VK} (h : Res K F H (.ow (.list xs)) Q) (le : Same F H) (q : RpA K F xs vs) (hp : H p = none) : Q (.ref p) (upd H p (.lst vs)) :=
  h (.ref p) F _ (Fr.refl.up hp) (le.trans (same_up hp)) ⟨p, rfl, ⟨le.free hp, vs, upd_same, q⟩, hp⟩
theorem Res.newT {xs : List PyData} {vs : List V} {p : Addr} {Q : VK} (h : Res K F H (.fr (.tuple xs)) Q) (le : Same F H) (q : RpA K F xs vs) (hp : H p = none) : Q (.ref p) (upd H p (.tup vs)) :=
  h (.ref p) (upd F p (.tup vs)) _ (Fr.refl.upF le hp) (same_up2 le hp) ⟨p, vs, rfl, .inl (.inl upd_same), RpA.mono (same_up (le.free hp)) _ _ q⟩
/-- an operator's result, as an expression's -/
theorem Pe.res {w : Sl} {v : V} (f : Fr (Own r σ) F H F1 H1) (wd : Wd K F1 H1 r1 σ) (sub : ∀ a, Own r1 σ a → Own r σ a) (f2 : Fr noO F1 H1 F2 H2) (le : Same F2 H2) (g : Gv K F1 H1 w v F2 H2) : Pe K F H r σ r1 w v F2 H2 := by
  refine ⟨f.trans f2 fun _ z => z.elim, wd.go f2 le, sub, ?_, ?_⟩
  · cases w with
    | fr d => exact g
    | ow d =>
      obtain ⟨a, e, o, n⟩ := g
      exact ⟨a, e, o, fun k => by obtain ⟨_, u, hu⟩ := wd.own k; rw [n] at hu; cases hu⟩
    | _ => exact (show False from g).elim
  · cases w with
    | ow d =>
      obtain ⟨a, e, o, n⟩ := g
      intro b eb
      rw [e] at eb
      cases eb
      by_cases no : Own r σ a
      · exact .inr no
      · left
        cases k : H a with
        | none => rfl
        | some u => rw [f.hh a u k no] at n; cases n
    | _ => trivial
end

/-! ### expressions: the judgement -/
section
variable (C : Call) (K : PySem.W.Frag)
def tE (e : Ex) : TE := fun σ H Q => ∃ F r w r', Wd K F H r σ ∧ evE C e r = some (w, r') ∧ ∀ v F' H', Pe K F H r σ r' w v F' H' → Q v H'
/-- a test -/
def tT (e : Ex) : TT := fun σ H Q => ∃ F r b r', Wd K F H r σ ∧ evE C e r = some (.fr (.bool b), r') ∧ ∀ F' H', Fr (Own r σ) F H F' H' → Wd K F' H' r' σ → (∀ a, Own r' σ a → Own r σ a) → Q b H'
end
end Bx

set_option Elab.async false
set_option linter.all false
set_option maxRecDepth 100000
set_option autoImplicit false
set_option maxHeartbeats 2000000
/-! Dicts whose keys are tuples: the raw thing. -/
namespace Bx
open PySem PySem.Spec PyProof.Rows L2
mutual
theorem nkey_hash : ∀ (d : PyData) (q : NestedKey), nkey d = some q → ∀ w w' : World, q.hash w = q.hash w'
  | .int i, q, h, w, w' => by simp only [nkey, Option.some.injEq] at h; subst h; rfl
  | .tuple xs, q, h, w, w' => by
    unfold nkey at h
    cases e : nkeys xs with
    | none => rw [e] at h; cases h
    | some ks =>
      rw [e] at h
      cases h
      show reduceHash (Builtin.Tuple.tupleHashOf (NestedKey.hashes w ks)) = reduceHash (Builtin.Tuple.tupleHashOf (NestedKey.hashes w' ks))
      rw [nkeys_hash xs ks e w w']
  | .none, q, h, _, _ => by simp [nkey] at h
  | .bool _, q, h, _, _ => by simp [nkey] at h
  | .str _, q, h, _, _ => by simp [nkey] at h
  | .list _, q, h, _, _ => by simp [nkey] at h
  | .dict _, q, h, _, _ => by simp [nkey] at h
theorem nkeys_hash : ∀ (ds : List PyData) (ks : List NestedKey), nkeys ds = some ks → ∀ w w' : World, NestedKey.hashes w ks = NestedKey.hashes w' ks
  | [], ks, h, w, w' => by simp only [nkeys, Option.some.injEq] at h; subst h; rfl
  | d :: ds, ks, h, w, w' => by
    unfold nkeys at h
    cases e : nkey d with
    | none => rw [e] at h; cases h
    | some k =>
      rw [e] at h
      cases e2 : nkeys ds with
      | none => rw [e2] at h; cases h
      | some l =>
        rw [e2] at h
        cases h
        show NestedKey.hash w k :: NestedKey.hashes w l = NestedKey.hash w' k :: NestedKey.hashes w' l
        rw [nkey_hash d k e w w', nkeys_hash ds l e2 w w']
end
theorem top_hash {d : PyData} {q : NestedKey} (h : topKey d = some q) (w w' : World) : q.hash w = q.hash w' := by
  obtain ⟨xs, ks, rfl, e, rfl, _⟩ := top_tuple h
  exact nkey_hash (.tuple xs) (.tup ks) (by unfold nkey; rw [e]) w w'
section
variable {X : Cx} {pins : List (Addr × Obj)} {σ : SG} {H : Hp} {s : Shared}
mutual
theorem nk_is (I : Inv X pins σ H s) : ∀ (d : PyData) (q : NestedKey) (v : V) (u : Value), nkey d = some q → Rp X.K H d v → RelV v u → NestedIs s.heap q u
  | .int i, q, v, u, h, r, ru => by
    simp only [nkey, Option.some.injEq] at h
    subst h
    unfold Rp at r
    subst r
    obtain ⟨t, rfl⟩ := ru
    exact .int i t
  | .tuple xs, q, v, u, h, r, ru => by
    unfold nkey at h
    cases e : nkeys xs with
    | none => rw [e] at h; cases h
    | some ks =>
      rw [e] at h
      cases h
      unfold Rp at r
      obtain ⟨a, vs, rfl, sq, ra⟩ := r
      cases (show u = Value.ref a from ru)
      obtain ⟨its, rv, ⟨o, ho, hc, n, hd⟩, _⟩ := I.tuple sq
      exact .tup ho hc hd (by simpa using nks_is I xs ks vs its e ra rv)
  | .none, q, _, _, h, _, _ => by simp [nkey] at h
  | .bool _, q, _, _, h, _, _ => by simp [nkey] at h
  | .str _, q, _, _, h, _, _ => by simp [nkey] at h
  | .list _, q, _, _, h, _, _ => by simp [nkey] at h
  | .dict _, q, _, _, h, _, _ => by simp [nkey] at h
theorem nks_is (I : Inv X pins σ H s) : ∀ (ds : List PyData) (ks : List NestedKey) (vs : List V) (us : List Value), nkeys ds = some ks → RpA X.K H ds vs → Vals vs us → NestedAll s.heap ks us
  | [], ks, vs, us, h, r, ru => by
    simp only [nkeys, Option.some.injEq] at h
    subst h
    unfold RpA at r
    subst r
    cases ru
    exact .nil
  | d :: ds, ks, vs, us, h, r, ru => by
    unfold nkeys at h
    cases e : nkey d with
    | none => rw [e] at h; cases h
    | some k =>
      rw [e] at h
      cases e2 : nkeys ds with
      | none => rw [e2] at h; cases h
      | some l =>
        rw [e2] at h
        cases h
        unfold RpA at r
        obtain ⟨v, t, rfl, r1, r2⟩ := r
        cases ru with
        | cons u1 u2 => exact .cons (nk_is I d k v _ e r1 u1) (nks_is I ds l t _ e2 r2 u2)
end
theorem top_is (I : Inv X pins σ H s) {d : PyData} {q : NestedKey} {b : Addr} (h : topKey d = some q) (r : Rp X.K H d (.ref b)) : (nestedKind X.prog X.w).is s.heap q b := by
  obtain ⟨xs, ks, rfl, e, rfl, dp⟩ := top_tuple h
  exact ⟨nk_is I (.tuple xs) (.tup ks) (.ref b) (.ref b) (by unfold nkey; rw [e]) r rfl, dp⟩
theorem top_ref {K : PySem.W.Frag} {d : PyData} {q : NestedKey} {v : V} (h : topKey d = some q) (r : Rp K H d v) : ∃ b, v = .ref b := by
  obtain ⟨xs, ks, rfl, _⟩ := top_tuple h
  unfold Rp at r
  obtain ⟨a, vs, rfl, _⟩ := r
  exact ⟨a, rfl⟩
theorem RpN.keys (I : Inv X pins σ H s) : ∀ {kvs : List (PyData × PyData)} {xs : List (NestedKey × Addr × Value)}, RpN X.K H kvs xs → ∀ x ∈ xs, (nestedKind X.prog X.w).is s.heap x.1 x.2.1 ∧ ∀ w w' : World, x.1.hash w = x.1.hash w'
  | [], xs, h, x, hx => by unfold RpN at h; subst h; simp at hx
  | (k, d) :: kvs, xs, h, x, hx => by
    unfold RpN at h
    obtain ⟨q, b, u, v, r, rfl, e, hk, _, _, h⟩ := h
    rcases List.mem_cons.mp hx with rfl | hx
    · exact ⟨top_is I e hk, top_hash e⟩
    · exact RpN.keys I h x hx
theorem dn_raw (I : Inv X pins σ H s) {a : Addr} {o : Obj} (n : Rd H a (DN a o)) : s.heap.get? a = some o := (show ObjOk X.prog X.w H s.heap a (DN a o) from n.ok I.hok).1
theorem dn_of (I : Inv X pins σ H s) {a : Addr} {o : Obj} {xs : List (NestedKey × Addr × Value)} {kvs : List (PyData × PyData)} (n : DNk H a o xs) (r : RpN X.K H kvs xs) : s.heap.DictOfH (nestedKind X.prog X.w) a xs := by
  obtain ⟨h2, es, ep, h3, h4⟩ := n.ent
  exact ⟨o, es, ep, dn_raw I n.rd, h2, h3, h4 X.w, fun x hx => (r.keys I x hx).1, n.nd⟩
theorem dn_new {P : Program} {w : World} {H' : Hp} {h' : Heap} {a : Addr} {xs : List (NestedKey × Addr × Value)} (d : h'.DictOfH (nestedKind P w) a xs) (hh : ∀ x ∈ xs, ∀ w w' : World, x.1.hash w = x.1.hash w') : ∃ o, Ent o xs ∧ ObjOk P w H' h' a (DN a o) := by
  obtain ⟨o, es, ep, h1, h2, h3, h4, _, _⟩ := d
  refine ⟨o, ⟨h2, es, ep, h3, fun w' => ?_⟩, ⟨h1, ⟨o, h1⟩, fun g1 g2 q k => k o q⟩⟩
  rw [h4]
  refine List.map_congr_left fun x hx => ?_
  show (⟨x.1.hash w, _, _⟩ : DictEntry) = _
  rw [hh x hx w w']
theorem room_n {A : Around} (hu : A.units + 100 < cLine) : (nestedKind X.prog X.w).room A.in1 := by
  show A.in1.units + 8 < cLine
  rw [Around.in1_units]
  omega
/-- d[k] -/
theorem dn_get (hu : X.A.units + 100 < cLine) (I : Inv X pins σ H s) {a b : Addr} {o : Obj} {xs : List (NestedKey × Addr × Value)} {kvs : List (PyData × PyData)} {k d : PyData} {q : NestedKey} (n : DNk H a o xs) (r : RpN X.K H kvs xs) (e : topKey k = some q) (hk : Rp X.K H k (.ref b)) (g : dGetN kvs q = some d) {Q : VK}
    (hQ : ∀ v, Rp X.K H d v → Q v H) : ∃ u, wpAny (model X.prog X.w) X.A (getItem (.ref a) (.ref b)) (fun r s' => r = u ∧ EP X pins σ Q r s') X.xe s := by
  obtain ⟨b2, u, v, ea, ru, rd⟩ := (RpN.get r).1 d g
  exact ⟨u, wpAny_getItem_heap (room_n hu) (top_is I e hk) (dn_of I n r) ea ⟨rfl, v, H, I.tok _, ru, hQ v rd⟩⟩
end
end Bx

set_option Elab.async false
set_option linter.all false
set_option maxRecDepth 100000
set_option autoImplicit false
set_option maxHeartbeats 2000000
/-! Operators on data. -/
namespace Bx
open PySem PySem.Spec PyProof.Rows L2

theorem SZ_eq : SZ = sizeLine := by rw [sizeLine_eq]; rfl
section
variable {X : Cx} {pins : List (Addr × Obj)} {σ : SG} {H F : Hp} {s : Shared}

/-! data without dicts read off the heap -/
mutual
theorem rp_dp {K : PySem.W.Frag} {H : Hp} : ∀ (d : PyData) (v : V), d.plain = true → Rp K H d v → Dp K H v d
  | .none, v, _, q => by unfold Rp at q; subst q; exact .non
  | .bool b, v, _, q => by unfold Rp at q; subst q; exact .bl b
  | .int i, v, _, q => by unfold Rp at q; subst q; exact .int i
  | .str x, v, _, q => by unfold Rp at q; subst q; exact .str x
  | .list xs, v, p, q => by
    unfold Rp at q
    obtain ⟨a, vs, rfl, h, r⟩ := q
    exact .lst h (rpA_dp xs vs (by simpa [PyData.plain] using p) r)
  | .tuple xs, v, p, q => by
    unfold Rp at q
    obtain ⟨a, vs, rfl, h, r⟩ := q
    exact .tup h (rpA_dp xs vs (by simpa [PyData.plain] using p) r)
  | .dict kvs, v, p, q => by simp [PyData.plain] at p
theorem rpA_dp {K : PySem.W.Frag} {H : Hp} : ∀ (ds : List PyData) (vs : List V), PyData.plainAll ds = true → RpA K H ds vs → DpAll K H vs ds
  | [], vs, _, q => by unfold RpA at q; subst q; exact .nil
  | x :: xs, vs, p, q => by
    unfold RpA at q
    obtain ⟨v, r, rfl, a, b⟩ := q
    have p' : x.plain = true ∧ PyData.plainAll xs = true := by simpa [PyData.plainAll] using p
    exact .cons (rp_dp x v p'.1 a) (rpA_dp xs r p'.2 b)
end
theorem rp_reads (I : Inv X pins σ H s) {d : PyData} {v : V} {u : Value} (p : d.plain = true) (q : Rp X.K H d v) (r : RelV v u) : ∃ as, Reads s.heap u d as := Dp.reads I d v u (rp_dp d v p q) r
theorem rpA_reads (I : Inv X pins σ H s) {ds : List PyData} {vs : List V} {us : List Value} (p : PyData.plainAll ds = true) (q : RpA X.K H ds vs) (r : Vals vs us) : ∃ as, ReadsAll s.heap us ds as := Dp.readsAll I ds vs us (rpA_dp ds vs p q) r

/-! ### + - * // % ** << -/
def bopA : BOp → Operator
  | .add => .Add
  | .sub => .Sub
  | .mul => .Mult
  | .fdiv => .FloorDiv
  | .mod => .Mod
  | .pow => .Pow
  | .shl => .LShift
def rBin (K : PySem.W.Frag) (o : BOp) : R2 := fun x y H Q => ∃ F d e w, Same F H ∧ Vw K F H d x ∧ Vw K F H e y ∧ binD o d e = some w ∧ Res K F H w Q
theorem small_of {i : Int} (h : smallI i = true) : -(2 ^ 64) < i ∧ i < 2 ^ 64 := by
  unfold smallI at h
  have h := of_decide_eq_true h
  have e : (2 : Int) ^ 64 = 18446744073709551616 := by decide
  rw [e]
  omega
theorem cat_lists (I : Inv X pins σ H s) {a b : Addr} {vs ws : List V} {Q : VK} (ha : SqL X.K H a vs) (hb : SqL X.K H b ws) (hz : vs.length + ws.length ≤ sizeLine)
    (q : ∀ p, H p = none → Q (.ref p) (upd H p (.lst (vs ++ ws)))) : wpAny (model X.prog X.w) X.A (binaryOp .Add (.ref a) (.ref b)) (EP X pins σ Q) X.xe s := by
  obtain ⟨is1, r1, p1, z1⟩ := I.list ha
  obtain ⟨is2, r2, p2, z2⟩ := I.list hb
  obtain ⟨⟨c1, d1, da1, s1⟩, h1, hc1, n1, hd1⟩ := p1.isList
  obtain ⟨⟨c2, d2, da2, s2⟩, h2, hc2, n2, hd2⟩ := p2.isList
  simp only at hc1 hd1 hc2 hd2
  subst hc1 hd1 hc2 hd2
  have l1 := r1.length
  have l2 := r2.length
  refine PySem.concat_meets ⟨_, h1, rfl⟩ ⟨_, h2, rfl⟩ noFill_list_add seq_list_add PySem.F.slot_list_add PySem.F.entry_list_add (PySem.F.args_list_add_2 _ _)
    (list_addW a b is1.toArray is2.toArray n1 n2 d1 d2 s1 s2 (by simp; omega)) ⟨h1, h2, ?_⟩
  have e : is1.toArray ++ is2.toArray = (is1 ++ is2).toArray := by simp
  rw [e]
  exact ⟨.ref _, _, I.lnew (t' := s.toks) (r1.append r2) (by rw [List.length_append]; exact hz), rfl, q _ I.fresh⟩
theorem op_binD (o : BOp) : OpR X (binaryOp (bopA o)) (rBin X.K o) := by
  intro pins s σ H x y v u Q I rx ry h
  obtain ⟨F, d, e, w, le, hx, hy, hb, q⟩ := h
  unfold binD at hb
  split at hb
  · cases hb
    obtain rfl := hx.int
    obtain rfl := hy.int
    exact op_add pins s σ H _ _ v u Q I rx ry ⟨_, _, rfl, rfl, q.same le rfl⟩
  · split at hb
    · cases hb
      obtain rfl := hx.str
      obtain rfl := hy.str
      exact op_add_str pins s σ H _ _ v u Q I rx ry ⟨_, _, rfl, rfl, by rw [← SZ_eq]; assumption, q.same le rfl⟩
    · cases hb
  · split at hb
    · cases hb
      rename_i hz
      obtain ⟨a, vs, rfl, sa, ra⟩ := hx.tup
      obtain ⟨b, ws, rfl, sb, rb⟩ := hy.tup
      have l1 := ra.len
      have l2 := rb.len
      refine op_catA pins s σ H _ _ v u Q I rx ry ⟨a, b, vs, ws, rfl, rfl, SqT.mono le sa, SqT.mono le sb, by rw [← SZ_eq, ← l1, ← l2]; exact hz, fun e => ?_, fun _ e => ?_, fun _ _ p hp => ?_⟩
      · subst e
        obtain rfl := List.eq_nil_of_length_eq_zero l1
        exact q.same le ⟨b, ws, rfl, sb, rb⟩
      · subst e
        obtain rfl := List.eq_nil_of_length_eq_zero l2
        exact q.same le ⟨a, vs, rfl, sa, by rw [List.append_nil]; exact ra⟩
      · exact q.newT le (ra.app rb) hp
    · cases hb
  · split at hb
    · cases hb
      rename_i hz
      obtain ⟨a, vs, rfl, sa, ra⟩ := hx.lst le
      obtain ⟨b, ws, rfl, sb, rb⟩ := hy.lst le
      have l1 := ra.len
      have l2 := rb.len
      cases rx
      cases ry
      exact cat_lists I sa sb (by rw [← SZ_eq, ← l1, ← l2]; exact hz) fun p hp => q.newL le (ra.app rb) hp
    · cases hb
  · cases hb
    obtain rfl := hx.int
    obtain rfl := hy.int
    exact op_sub pins s σ H _ _ v u Q I rx ry ⟨_, _, rfl, rfl, q.same le rfl⟩
  · split at hb
    · cases hb
      rename_i i j hz
      obtain rfl := hx.int
      obtain rfl := hy.int
      have hz' : smallI i = true ∨ smallI j = true := by simpa using hz
      exact op_mul pins s σ H _ _ v u Q I rx ry ⟨_, _, rfl, rfl, hz'.imp small_of small_of, q.same le rfl⟩
    · cases hb
  · split at hb
    · cases hb
      rename_i i j hz
      obtain rfl := hx.int
      obtain rfl := hy.int
      exact op_fdiv pins s σ H _ _ v u Q I rx ry ⟨_, _, rfl, rfl, hz, q.same le rfl⟩
    · cases hb
  · split at hb
    · cases hb
      rename_i i j hz
      obtain rfl := hx.int
      obtain rfl := hy.int
      exact op_mod pins s σ H _ _ v u Q I rx ry ⟨_, _, rfl, rfl, hz, q.same le rfl⟩
    · cases hb
  · split at hb
    · cases hb
      rename_i i j hz
      obtain rfl := hx.int
      obtain rfl := hy.int
      exact op_pow pins s σ H _ _ v u Q I rx ry ⟨_, _, rfl, rfl, hz, q.same le rfl⟩
    · cases hb
  · split at hb
    · cases hb
      rename_i i j hz
      obtain rfl := hx.int
      obtain rfl := hy.int
      exact op_shl pins s σ H _ _ v u Q I rx ry ⟨_, _, rfl, rfl, hz, q.same le rfl⟩
    · cases hb
  · cases hb

/-! ### comparisons -/
def copA : COp → CmpOp
  | .eq => .Eq
  | .ne => .NotEq
  | .lt => .Lt
  | .le => .LtE
  | .gt => .Gt
  | .ge => .GtE
  | .isin => .In
  | .notin => .NotIn
  | .is => .Is
  | .isnot => .IsNot
def rCmp (K : PySem.W.Frag) (o : COp) : R2 := fun x y H Q => ∃ F d e c, Same F H ∧ Vw K F H d x ∧ Vw K F H e y ∧ cmpD o d e = some c ∧ Q (.bl c) H
theorem okD_of {d : PyData} (h : okD d = true) : d.plain = true ∧ d.depth ≤ 64 := by
  unfold okD at h
  simpa using h
theorem op_cmpD (o : COp) (hu : X.A.units + 100 < cLine) : OpR X (compareOp (copA o)) (rCmp X.K o) := by
  intro pins s σ H x y v u Q I rx ry h
  obtain ⟨F, d, e, c, le, hx, hy, hb, q⟩ := h
  have fin : EP X pins σ Q (.bool c) s := ⟨.bl c, H, I, rfl, q⟩
  have wx := hx.rp le
  have wy := hy.rp le
  unfold cmpD at hb
  split at hb
  · split at hb
    · cases hb
      rename_i hz
      have hz' : okD d = true ∧ okD e = true := by simpa using hz
      obtain ⟨p1, z1⟩ := okD_of hz'.1
      obtain ⟨p2, z2⟩ := okD_of hz'.2
      obtain ⟨as, r1⟩ := rp_reads I p1 wx rx
      obtain ⟨bs, r2⟩ := rp_reads I p2 wy ry
      exact PySem.SeqAt.eq_plain r1 r2 p1 p2 (by omega) fin
    · cases hb
  · split at hb
    · cases hb
      rename_i hz
      have hz' : okD d = true ∧ okD e = true := by simpa using hz
      obtain ⟨p1, z1⟩ := okD_of hz'.1
      obtain ⟨p2, z2⟩ := okD_of hz'.2
      obtain ⟨as, r1⟩ := rp_reads I p1 wx rx
      obtain ⟨bs, r2⟩ := rp_reads I p2 wy ry
      exact PySem.SeqAt.ne_plain r1 r2 p1 p2 (by omega) fin
    · cases hb
  · cases hb
    obtain rfl := hx.int
    obtain rfl := hy.int
    exact op_lt pins s σ H _ _ v u Q I rx ry ⟨_, _, rfl, rfl, q⟩
  · cases hb
    obtain rfl := hx.int
    obtain rfl := hy.int
    exact op_le pins s σ H _ _ v u Q I rx ry ⟨_, _, rfl, rfl, q⟩
  · cases hb
    obtain rfl := hx.int
    obtain rfl := hy.int
    exact op_gt pins s σ H _ _ v u Q I rx ry ⟨_, _, rfl, rfl, q⟩
  · cases hb
    obtain rfl := hx.int
    obtain rfl := hy.int
    exact op_ge pins s σ H _ _ v u Q I rx ry ⟨_, _, rfl, rfl, q⟩
  · cases hb
    rename_i a b
    obtain rfl := hx.bool
    obtain rfl := hy.bool
    exact op_isBl pins s σ H _ _ v u Q I rx ry ⟨a, b, rfl, rfl, by cases a <;> cases b <;> exact q⟩
  · cases hb
    rename_i a b
    obtain rfl := hx.bool
    obtain rfl := hy.bool
    exact op_notBl pins s σ H _ _ v u Q I rx ry ⟨a, b, rfl, rfl, by cases a <;> cases b <;> exact q⟩
  · cases hb
    obtain rfl := hy.none
    refine op_isN pins s σ H _ _ v u Q I rx ry ⟨rfl, ?_⟩
    cases d with
    | none => obtain rfl := hx.none; exact q
    | bool b => obtain rfl := hx.bool; exact q
    | int b => obtain rfl := hx.int; exact q
    | str b => obtain rfl := hx.str; exact q
    | list xs => obtain ⟨a, vs, rfl, _⟩ := hx.lst le; exact q
    | tuple xs => obtain ⟨a, vs, rfl, _⟩ := hx.tup; exact q
    | dict xs =>
      unfold Rp at wx
      obtain ⟨a, rfl, _⟩ := wx
      exact q
  · cases hb
    obtain rfl := hy.none
    refine op_notN pins s σ H _ _ v u Q I rx ry ⟨rfl, ?_⟩
    cases d with
    | none => obtain rfl := hx.none; exact q
    | bool b => obtain rfl := hx.bool; exact q
    | int b => obtain rfl := hx.int; exact q
    | str b => obtain rfl := hx.str; exact q
    | list xs => obtain ⟨a, vs, rfl, _⟩ := hx.lst le; exact q
    | tuple xs => obtain ⟨a, vs, rfl, _⟩ := hx.tup; exact q
    | dict xs =>
      unfold Rp at wx
      obtain ⟨a, rfl, _⟩ := wx
      exact q
  · split at hb
    · cases hb
      rename_i ys hz
      have hz' : okD d = true ∧ okD (.list ys) = true := by simpa using hz
      obtain ⟨p1, z1⟩ := okD_of hz'.1
      obtain ⟨p2, z2⟩ := okD_of hz'.2
      obtain ⟨as, r1⟩ := rp_reads I p1 wx rx
      obtain ⟨bs, r2⟩ := rp_reads I p2 wy ry
      simp only [PyData.depth] at z2
      exact PySem.SeqAt.in_list_data r2 r1 (by simpa [PyData.plain] using p2) p1 (by omega) fin
    · cases hb
  · split at hb
    · cases hb
      rename_i ys hz
      have hz' : okD d = true ∧ okD (.tuple ys) = true := by simpa using hz
      obtain ⟨p1, z1⟩ := okD_of hz'.1
      obtain ⟨p2, z2⟩ := okD_of hz'.2
      obtain ⟨as, r1⟩ := rp_reads I p1 wx rx
      obtain ⟨bs, r2⟩ := rp_reads I p2 wy ry
      simp only [PyData.depth] at z2
      exact PySem.SeqAt.in_tuple_data r2 r1 (by simpa [PyData.plain] using p2) p1 (by omega) fin
    · cases hb
  · split at hb
    · cases hb
      rename_i ys hz
      have hz' : okD d = true ∧ okD (.list ys) = true := by simpa using hz
      obtain ⟨p1, z1⟩ := okD_of hz'.1
      obtain ⟨p2, z2⟩ := okD_of hz'.2
      obtain ⟨as, r1⟩ := rp_reads I p1 wx rx
      obtain ⟨bs, r2⟩ := rp_reads I p2 wy ry
      simp only [PyData.depth] at z2
      exact PySem.SeqAt.notIn_list_data r2 r1 (by simpa [PyData.plain] using p2) p1 (by omega) fin
    · cases hb
  · split at hb
    · cases hb
      rename_i ys hz
      have hz' : okD d = true ∧ okD (.tuple ys) = true := by simpa using hz
      obtain ⟨p1, z1⟩ := okD_of hz'.1
      obtain ⟨p2, z2⟩ := okD_of hz'.2
      obtain ⟨as, r1⟩ := rp_reads I p1 wx rx
      obtain ⟨bs, r2⟩ := rp_reads I p2 wy ry
      simp only [PyData.depth] at z2
      exact PySem.SeqAt.notIn_tuple_data r2 r1 (by simpa [PyData.plain] using p2) p1 (by omega) fin
    · cases hb
  · split at hb
    · rename_i qk hk
      split at hb
      · rename_i hn
        cases hb
        obtain ⟨b, rfl⟩ := top_ref hk wx
        cases (show v = Value.ref b from rx)
        obtain ⟨a, rfl, hd⟩ := hy.dct le
        cases (show u = Value.ref a from ry)
        rcases hd with ⟨kv, _, rk⟩ | ⟨o, xs, n, rn⟩
        · rw [rk.head] at hn; cases hn
        · have rn' := RpN.mono le _ _ rn
          rename_i kvs _
          have e : (atKey xs qk).isSome = (dGetN kvs qk).isSome := by
            have g := RpN.get (q := qk) rn
            cases z : dGetN kvs qk with
            | none => rw [g.2 z]; rfl
            | some d => obtain ⟨_, _, _, ea, _⟩ := g.1 d z; rw [ea]; rfl
          refine wpAny_in_heap (room_n hu) (top_is I hk wx) n.sys (dn_of I n rn') ?_
          rw [e]
          exact ⟨.bl _, H, I.tok _, rfl, q⟩
      · cases hb
    · cases hb
  · split at hb
    · rename_i qk hk
      split at hb
      · rename_i hn
        cases hb
        obtain ⟨b, rfl⟩ := top_ref hk wx
        cases (show v = Value.ref b from rx)
        obtain ⟨a, rfl, hd⟩ := hy.dct le
        cases (show u = Value.ref a from ry)
        rcases hd with ⟨kv, _, rk⟩ | ⟨o, xs, n, rn⟩
        · rw [rk.head] at hn; cases hn
        · have rn' := RpN.mono le _ _ rn
          rename_i kvs _
          have e : (atKey xs qk).isSome = (dGetN kvs qk).isSome := by
            have g := RpN.get (q := qk) rn
            cases z : dGetN kvs qk with
            | none => rw [g.2 z]; rfl
            | some d => obtain ⟨_, _, _, ea, _⟩ := g.1 d z; rw [ea]; rfl
          show wpAny (model X.prog X.w) X.A (do return Value.bool (!(← contains (.ref a) (.ref b)))) _ _ s
          refine wpAny_bind (wpAny_contains_heap (room_n hu) (top_is I hk wx) n.sys (dn_of I n rn') (wpAny_pure ?_))
          rw [e]
          exact ⟨.bl _, H, I.tok _, rfl, q⟩
      · cases hb
    · cases hb
  · cases hb

/-! ### items, slices -/
theorem atI_len {α : Type} {xs : List α} {i : Int} {d : α} (h : atI xs i = some d) : ∃ j, ixN xs.length i = some j ∧ xs[j]? = some d := by
  unfold atI at h
  cases e : ixN xs.length i with
  | none => rw [e] at h; cases h
  | some j => rw [e] at h; exact ⟨j, rfl, h⟩
theorem RpA.atI {K : PySem.W.Frag} {F : Hp} {ds : List PyData} {vs : List V} {i : Int} {d : PyData} (q : RpA K F ds vs) (h : L2.atI ds i = some d) : ∃ v, L2.atI vs i = some v ∧ Rp K F d v := by
  obtain ⟨j, h1, h2⟩ := atI_len h
  obtain ⟨v, h3, h4⟩ := q.at h2
  refine ⟨v, ?_, h4⟩
  unfold L2.atI
  rw [← q.len, h1]
  exact h3
def rIdx (K : PySem.W.Frag) : R2 := fun x y H Q => ∃ F d e g, Same F H ∧ Vw K F H d x ∧ Vw K F H e y ∧ idxD d e = some g ∧ ∀ v, Rp K F g v → Q v H
theorem ix_idxD (hu : X.A.units + 100 < cLine) : IxR X (rIdx X.K) := by
  intro value slice pins s σ H x y v u Q I rx ry h hs
  obtain ⟨F, d, e, g, le, hx, hy, hb, q⟩ := h
  unfold idxD at hb
  split at hb
  · obtain rfl := hy.int
    obtain ⟨a, vs, rfl, sa, ra⟩ := hx.lst le
    obtain ⟨w, h1, h2⟩ := ra.atI hb
    exact ix_list value slice pins s σ H _ _ v u Q I rx ry ⟨a, vs, _, w, rfl, rfl, sa, h1, q w h2⟩ hs
  · obtain rfl := hy.int
    obtain ⟨a, vs, rfl, sa, ra⟩ := hx.tup
    obtain ⟨w, h1, h2⟩ := ra.atI hb
    exact ix_tup value slice pins s σ H _ _ v u Q I rx ry ⟨a, vs, _, w, rfl, rfl, SqT.mono le sa, h1, q w h2⟩ hs
  · split at hb
    · rename_i qk hk
      have wy := hy.rp le
      obtain ⟨b, rfl⟩ := top_ref hk wy
      cases (show u = Value.ref b from ry)
      obtain ⟨a, rfl, hd⟩ := hx.dct le
      cases (show v = Value.ref a from rx)
      rcases hd with ⟨kv, _, rk⟩ | ⟨o, xs, n, rn⟩
      · rw [RpK.dGetN qk rk] at hb; cases hb
      · have rn' := RpN.mono le _ _ rn
        obtain ⟨b2, w, z, ea, rw', rz⟩ := (RpN.get rn).1 g hb
        have dd := dn_of I n rn'
        exact subscriptTail_builtinR (x := w) dd.typeIs PySem.F.slot_dict_getitem.lookup (wpAny_getItem_heap (Q := fun r s' => r = w ∧ EP X pins σ Q r s') (room_n hu) (top_is I hk wy) dd ea ⟨rfl, z, H, I.tok _, rw', q z rz⟩) hs
    · cases hb
  · cases hb
theorem RpA.cut {K : PySem.W.Frag} {F : Hp} {ds : List PyData} {vs : List V} (lo hi : Option Int) (q : RpA K F ds vs) : RpA K F (cutL ds lo hi) (cutV vs lo hi) := by
  unfold cutL cutV
  rw [← q.len]
  exact (q.drop _).take _
def rSlD (K : PySem.W.Frag) : V → Option Int → Option Int → Hp → VK → Prop := fun x lo hi H Q => ∃ F d w, Same F H ∧ Vw K F H d x ∧ sliceD d lo hi = some w ∧ Res K F H w Q
theorem sl_sliceD : SlR X (rSlD X.K) := by
  intro pins s σ H x v vl vu lo hi sl Q I rx hs pl pu h
  obtain ⟨F, d, w, le, hx, hb, q⟩ := h
  unfold sliceD at hb
  split at hb
  · cases hb
    obtain ⟨a, vs, rfl, sa, ra⟩ := hx.lst le
    exact sl_list pins s σ H _ v vl vu lo hi sl Q I rx hs pl pu ⟨a, vs, rfl, sa, fun p hp => q.newL le (ra.cut lo hi) hp⟩
  · cases hb
    obtain ⟨a, vs, rfl, sa, ra⟩ := hx.tup
    refine sl_tupA pins s σ H _ v vl vu lo hi sl Q I rx hs pl pu ⟨a, vs, rfl, SqT.mono le sa, fun e => ?_, fun _ p hp => q.newT le (ra.cut lo hi) hp⟩
    refine q.same le ⟨a, vs, rfl, sa, ?_⟩
    have e2 : cutV vs lo hi = vs := by
      unfold cutV
      rw [e.1, e.2, List.drop_zero, Nat.sub_zero, List.take_length]
    have z := ra.cut lo hi
    rw [e2] at z
    exact z
  · cases hb
end
end Bx

set_option Elab.async false
set_option linter.all false
set_option maxRecDepth 100000
set_option autoImplicit false
set_option maxHeartbeats 2000000
/-! Built-in functions, isinstance, methods that change a list. -/
namespace Bx
open PySem PySem.Spec PyProof.Rows L2

section
variable {X : Cx}
theorem VwL.one {K : PySem.W.Frag} {F H : Hp} {d : PyData} {xs : List V} (q : VwL K F H [d] xs) : ∃ v, xs = [v] ∧ Vw K F H d v := by
  unfold VwL at q
  obtain ⟨v, r, rfl, a, b⟩ := q
  unfold VwL at b
  subst b
  exact ⟨v, rfl, a⟩
theorem VwL.two {K : PySem.W.Frag} {F H : Hp} {d e : PyData} {xs : List V} (q : VwL K F H [d, e] xs) : ∃ v w, xs = [v, w] ∧ Vw K F H d v ∧ Vw K F H e w := by
  unfold VwL at q
  obtain ⟨v, r, rfl, a, b⟩ := q
  obtain ⟨w, rfl, c⟩ := b.one
  exact ⟨v, w, rfl, a, c⟩
theorem VwL.zero {K : PySem.W.Frag} {F H : Hp} {xs : List V} (q : VwL K F H [] xs) : xs = [] := by
  unfold VwL at q
  exact q

def btV : Bt → Value
  | .len => .builtin "len"
  | .sum1 => .builtin "sum"
  | .min1 => .builtin "min"
  | .max1 => .builtin "max"
  | .min2 => .builtin "min"
  | .max2 => .builtin "max"
  | .abs => .builtin "abs"
  | .int1 => .type "int"
  | .str1 => .type "str"
  | .sorted => .builtin "sorted"
  | .repr => .builtin "repr"
  | .list1 => .type "list"
  | .tuple1 => .type "tuple"
  | .all => .builtin "all"
  | .any => .builtin "any"
  | .dct1 => .type "dict"
def rBt (K : PySem.W.Frag) (b : Bt) : List V → Hp → VK → Prop := fun xs H Q => ∃ F ds w, Same F H ∧ VwL K F H ds xs ∧ btD b ds = some w ∧ Res K F H w Q

/-! ### sorted -/
theorem each_of {K : PySem.W.Frag} {F : Hp} : ∀ {ds : List PyData} {vs : List V} {us : List Value}, RpA K F ds vs → Vals vs us → PySem.W.EachIs (fun u d => ∃ v, RelV v u ∧ Rp K F d v) us ds
  | [], vs, us, q, r => by
    unfold RpA at q
    subst q
    cases r
    exact .nil
  | d :: ds, vs, us, q, r => by
    unfold RpA at q
    obtain ⟨v, t, rfl, a, b⟩ := q
    cases r with
    | cons r1 r2 => exact .cons ⟨v, r1, a⟩ (each_of b r2)
theorem of_each {K : PySem.W.Frag} {F : Hp} {us : List Value} {ds : List PyData} (h : PySem.W.EachIs (fun u d => ∃ v, RelV v u ∧ Rp K F d v) us ds) : ∃ vs, Vals vs us ∧ RpA K F ds vs := by
  induction h with
  | nil => exact ⟨[], .nil, RpA.nil⟩
  | cons h t ih =>
    obtain ⟨v, a, b⟩ := h
    obtain ⟨vs, c, d⟩ := ih
    exact ⟨v :: vs, .cons a c, RpA.cons b d⟩
theorem sorted_data_ok {xs : List PyData} (hs : sortOk xs = true) (hu : X.A.units + 100 < cLine) {pins : List (Addr × Obj)} {s : Shared} {σ : SG} {H F : Hp} {v : V} {u : Value} {Q : VK} (I : Inv X pins σ H s) (ru : RelV v u) (le : Same F H) (hv : Vw X.K F H (.list xs) v)
    (q : Res X.K F H (.ow (.list (xs.mergeSort (PySem.W.dataLe false id)))) Q) : wpAny (model X.prog X.w) X.A (call (.builtin "sorted") [u]) (EP X pins σ Q) X.xe s := by
  obtain ⟨a, vs, rfl, sa, ra⟩ := hv.lst le
  cases ru
  obtain ⟨us, rv, pl, hz⟩ := I.list sa
  simp only [sortOk, Bool.and_eq_true, Bool.or_eq_true, List.all_eq_true, decide_eq_true_eq] at hs
  obtain ⟨⟨⟨h1, h2⟩, h3⟩, h4⟩ := hs
  have ee := each_of ra rv
  have er : PySem.W.EachIs (fun w b => ∃ as, Reads s.heap w (id b) as) us xs := by
    refine PySem.W.EachIs.of_zip ee.length fun p hp => ?_
    obtain ⟨v, r1, r2⟩ := ee.zip p hp
    have hm : p.2 ∈ xs := (List.of_mem_zip hp).2
    exact rp_reads I (h2 _ hm).2 (Rp.mono le _ _ r2) r1
  refine PySem.W.sorted_data (R := fun u d => ∃ v, RelV v u ∧ Rp X.K F d v) (enc := id) pl.isList ee er ?_ ?_ (by rw [← SZ_eq]; exact h4) (fun b hb => ?_) fun out ho eo => ?_
  · rw [List.map_id]
    exact fun d hd d' hd' => h1 d hd d' hd'
  · rw [List.map_id]
    rcases h3 with h3 | h3
    · refine .inl fun d hd => ?_
      have z := h3 d hd
      cases d with
      | tuple ys =>
        cases ys with
        | nil => simp at z
        | cons y r => exact ⟨y, r, rfl⟩
      | _ => simp at z
    · refine .inr fun d hd => ?_
      have z := h3 d hd
      cases d with
      | tuple ys => simp at z
      | none => simp at z
      | _ => exact ⟨by simp, by simp⟩
  · have := (h2 b hb).1
    show X.A.units + 2 + b.depth < cLine
    omega
  · obtain ⟨ws, r1, r2⟩ := of_each eo
    obtain ⟨c, hc⟩ := sortedAll_at s.heap us out.toArray
    have hl : ws.length ≤ sizeLine := by
      rw [r1.length, ho, ← SZ_eq]
      exact h4
    refine ⟨.ref (s.heap.objs.size + 1), upd H (s.heap.objs.size + 1) (.lst ws), I.laid (t' := s.toks) (fun b o e => sortedAll_old e) (Nat.le_succ _) ⟨hl, out, c, r1, hc⟩, rfl, ?_⟩
    exact q.newL le r2 (I.hok.fresh (Nat.le_succ _))
/-! ### min, max of data -/
theorem sortOk_alike {xs : List PyData} (hs : sortOk xs = true) : PySem.W.AlikeAll xs ∧ PyData.depthAll xs ≤ 64 ∧ ∀ x ∈ xs, x.plain = true := by
  simp only [sortOk, Bool.and_eq_true, Bool.or_eq_true, List.all_eq_true, decide_eq_true_eq] at hs
  obtain ⟨⟨⟨h1, h2⟩, h3⟩, h4⟩ := hs
  refine ⟨⟨h1, fun x hx e => ?_⟩, ?_, fun x hx => (h2 x hx).2⟩
  · subst e
    rcases h3 with h3 | h3
    · have := h3 _ hx; simp at this
    · have := h3 _ hx; simp at this
  · have go : ∀ l : List PyData, (∀ x ∈ l, x.depth ≤ 64) → PyData.depthAll l ≤ 64 := by
      intro l
      induction l with
      | nil => intro _; exact Nat.zero_le _
      | cons a l ih =>
        intro h
        have := h a List.mem_cons_self
        have := ih fun x hx => h x (List.mem_cons_of_mem _ hx)
        simp only [PyData.depthAll]
        omega
    exact go xs fun x hx => (h2 x hx).1
theorem plainAll_of : ∀ l : List PyData, (∀ x ∈ l, x.plain = true) → PyData.plainAll l = true
  | [], _ => by simp [PyData.plainAll]
  | x :: l, h => by
    unfold PyData.plainAll
    rw [h x List.mem_cons_self, plainAll_of l fun y hy => h y (List.mem_cons_of_mem _ hy)]
    rfl
theorem pick_ok {K : PySem.W.Frag} {F H : Hp} {pins : List (Addr × Obj)} {s : Shared} {σ : SG} (I : Inv X pins σ H s) (le : Same F H) {xs : List PyData} {vs : List V} {us : List Value} (hp : ∀ x ∈ xs, x.plain = true) (ra : RpA X.K F xs vs) (rv : Vals vs us) {i : Nat} {v : Value} {h' : Heap} {d : PyData} {bs : List Addr} (hi : us.toArray[i]? = some v) (hr : Reads h' v d bs)
    (hk : ∀ b o, s.heap.get? b = some o → h'.get? b = some o) : ∃ y, RelV y v ∧ Rp X.K F d y := by
  have ee := each_of ra rv
  have hl := ee.length
  have hi' : us[i]? = some v := by rw [← hi]; simp
  have hil : i < us.length := (List.getElem?_eq_some_iff.mp hi').1
  obtain ⟨x, hx⟩ : ∃ x, xs[i]? = some x := ⟨_, List.getElem?_eq_getElem (by omega)⟩
  have hz : (v, x) ∈ us.zip xs := List.mem_of_getElem? (i := i) (by rw [List.getElem?_zip_eq_some]; exact ⟨hi', hx⟩)
  obtain ⟨y, r1, r2⟩ := ee.zip _ hz
  have hm : x ∈ xs := List.mem_of_getElem? hx
  obtain ⟨as, q⟩ := rp_reads I (hp x hm) (Rp.mono le _ _ r2) r1
  have := (PyProof.Rows.reads_det (fun b o e _ => hk b o e) q hr).1
  subst this
  exact ⟨y, r1, r2⟩
theorem least_data_ok {xs : List PyData} {w : Sl} (hw : leastD xs = some w) (hc : X.calm = true) (hu : X.A.units + 100 < cLine) {pins : List (Addr × Obj)} {s : Shared} {σ : SG} {H F : Hp} {v : V} {u : Value} {Q : VK} (I : Inv X pins σ H s) (ru : RelV v u) (le : Same F H) (hv : Vw X.K F H (.list xs) v)
    (q : Res X.K F H w Q) : wpAny (model X.prog X.w) X.A (call (.builtin "min") [u]) (EP X pins σ Q) X.xe s := by
  unfold leastD at hw
  split at hw
  · rename_i hs
    cases xs with
    | nil => cases hw
    | cons x r =>
      cases hw
      obtain ⟨a1, a2, a3⟩ := sortOk_alike hs
      obtain ⟨a, vs, rfl, sa, ra⟩ := hv.lst le
      cases ru
      obtain ⟨us, rv, pl, hz⟩ := I.list sa
      obtain ⟨as, hr⟩ := rpA_reads I (plainAll_of _ a3) (RpA.mono le _ _ ra) rv
      refine PySem.W.min_list_data (I.ok.hd hc) pl.isList (by simpa using hr) a1 (by show X.A.units + 1 + _ < _; omega) fun i v h' tk bs hi hrd hk => ?_
      obtain ⟨y, r1, r2⟩ := pick_ok (K := X.K) I le a3 ra rv hi hrd hk
      exact ⟨y, H, I.kept hk, r1, q.same le r2⟩
  · cases hw
theorem most_data_ok {xs : List PyData} {w : Sl} (hw : mostD xs = some w) (hc : X.calm = true) (hu : X.A.units + 100 < cLine) {pins : List (Addr × Obj)} {s : Shared} {σ : SG} {H F : Hp} {v : V} {u : Value} {Q : VK} (I : Inv X pins σ H s) (ru : RelV v u) (le : Same F H) (hv : Vw X.K F H (.list xs) v)
    (q : Res X.K F H w Q) : wpAny (model X.prog X.w) X.A (call (.builtin "max") [u]) (EP X pins σ Q) X.xe s := by
  unfold mostD at hw
  split at hw
  · rename_i hs
    cases xs with
    | nil => cases hw
    | cons x r =>
      cases hw
      obtain ⟨a1, a2, a3⟩ := sortOk_alike hs
      obtain ⟨a, vs, rfl, sa, ra⟩ := hv.lst le
      cases ru
      obtain ⟨us, rv, pl, hz⟩ := I.list sa
      obtain ⟨as, hr⟩ := rpA_reads I (plainAll_of _ a3) (RpA.mono le _ _ ra) rv
      refine PySem.W.max_list_data (I.ok.hd hc) pl.isList (by simpa using hr) a1 (by show X.A.units + 1 + _ < _; omega) fun i v h' tk bs hi hrd hk => ?_
      obtain ⟨y, r1, r2⟩ := pick_ok (K := X.K) I le a3 ra rv hi hrd hk
      exact ⟨y, H, I.kept hk, r1, q.same le r2⟩
  · cases hw
/-! ### repr -/
theorem repr_data_ok {d : PyData} (hs : reprOk d = true) (hg : X.A.guards = some []) (hu : X.A.units + 100 < cLine) {pins : List (Addr × Obj)} {s : Shared} {σ : SG} {H F : Hp} {v : V} {u : Value} {Q : VK} (I : Inv X pins σ H s) (ru : RelV v u) (le : Same F H) (hv : Vw X.K F H d v)
    (q : Q (.str d.shown) H) : wpAny (model X.prog X.w) X.A (call (.builtin "repr") [u]) (EP X pins σ Q) X.xe s := by
  simp only [reprOk, Bool.and_eq_true, decide_eq_true_eq] at hs
  obtain ⟨⟨⟨h1, h2⟩, h3⟩, h4⟩ := hs
  have hz : d.shown.length ≤ sizeLine := by rw [← SZ_eq]; exact h3
  have wv := hv.rp le
  obtain ⟨as, rr⟩ := rp_reads I h1 wv ru
  have seqs : ∀ {a : Addr}, u = .ref a → wpAny (model X.prog X.w) X.A (call (.builtin "repr") [u]) (EP X pins σ Q) X.xe s := fun {a} e => by
    subst e
    have hd : d.hasDict = false := by
      have nd : (∀ d : PyData, d.plain = true → d.hasDict = false) := by
        intro d
        refine PyData.rec (motive_1 := fun d => d.plain = true → d.hasDict = false) (motive_2 := fun ds => PyData.plainAll ds = true → PyData.hasDictAll ds = false) (motive_3 := fun _ => True) (motive_4 := fun _ => True) ?_ ?_ ?_ ?_ ?_ ?_ ?_ ?_ ?_ ?_ ?_ ?_ d
        · intro _; simp [PyData.hasDict]
        · intro _ _; simp [PyData.hasDict]
        · intro _ _; simp [PyData.hasDict]
        · intro _ _; simp [PyData.hasDict]
        · intro xs ih p; simp only [PyData.hasDict]; exact ih (by simpa [PyData.plain] using p)
        · intro xs ih p; simp only [PyData.hasDict]; exact ih (by simpa [PyData.plain] using p)
        · intro _ _ p; simp [PyData.plain] at p
        · intro _; simp [PyData.hasDictAll]
        · intro x xs i1 i2 p
          have p' : x.plain = true ∧ PyData.plainAll xs = true := by simpa [PyData.plainAll] using p
          simp only [PyData.hasDictAll, i1 p'.1, i2 p'.2, Bool.or_self]
        · trivial
        · intros; trivial
        · intros; trivial
      exact nd d h1
    refine PySem.repr_of_reads' rr h2 (PySem.PyData.noDict_hsm hd) hg (by omega) (fun _ _ e => e) (fun h' t tk hk => ?_) hz
    exact ⟨.str d.shown, H, I.kept (t' := tk) hk, ⟨_, rfl⟩, q⟩
  cases d with
  | none =>
    obtain rfl := hv.none
    cases ru
    exact PySem.P.repr_of_none ⟨.str _, H, I.tok _, ⟨_, rfl⟩, q⟩
  | bool b =>
    obtain rfl := hv.bool
    cases ru
    refine PySem.P.repr_of_bool ⟨.str _, H, I.tok _, ⟨_, rfl⟩, ?_⟩
    cases b <;> exact q
  | int i =>
    obtain rfl := hv.int
    obtain ⟨t, rfl⟩ := ru
    exact PySem.P.repr_of_int (by simpa [PyData.showable] using h2) ⟨.str _, H, I.tok _, ⟨_, rfl⟩, q⟩
  | str x =>
    obtain rfl := hv.str
    obtain ⟨t, rfl⟩ := ru
    exact PySem.P.repr_of_str ⟨.str _, H, I.tok _, ⟨_, rfl⟩, q⟩ hz
  | list xs =>
    obtain ⟨a, vs, rfl, _⟩ := hv.lst le
    exact seqs (show u = .ref a from ru)
  | tuple xs =>
    obtain ⟨a, vs, rfl, _⟩ := hv.tup
    exact seqs (show u = .ref a from ru)
  | dict xs => simp [PyData.plain] at h1

/-! ### the least, the greatest -/
theorem foldl_min_mem : ∀ (l : List Int) (n : Int), (l.foldl min n = n ∨ l.foldl min n ∈ l) ∧ l.foldl min n ≤ n ∧ ∀ y ∈ l, l.foldl min n ≤ y
  | [], n => by simp
  | x :: l, n => by
    obtain ⟨h1, h2, h3⟩ := foldl_min_mem l (min n x)
    rw [List.foldl_cons]
    refine ⟨?_, by omega, fun y hy => ?_⟩
    · rcases h1 with h1 | h1
      · by_cases h : n ≤ x
        · left; omega
        · right; rw [h1, show min n x = x by omega]; exact List.mem_cons_self
      · right; exact List.mem_cons_of_mem _ h1
    · rcases List.mem_cons.mp hy with rfl | hy
      · omega
      · exact h3 y hy
theorem foldl_max_mem : ∀ (l : List Int) (n : Int), (l.foldl max n = n ∨ l.foldl max n ∈ l) ∧ n ≤ l.foldl max n ∧ ∀ y ∈ l, y ≤ l.foldl max n
  | [], n => by simp
  | x :: l, n => by
    obtain ⟨h1, h2, h3⟩ := foldl_max_mem l (max n x)
    rw [List.foldl_cons]
    refine ⟨?_, by omega, fun y hy => ?_⟩
    · rcases h1 with h1 | h1
      · by_cases h : x ≤ n
        · left; omega
        · right; rw [h1, show max n x = x by omega]; exact List.mem_cons_self
      · right; exact List.mem_cons_of_mem _ h1
    · rcases List.mem_cons.mp hy with rfl | hy
      · omega
      · exact h3 y hy
theorem min_uniq {n : Int} {ns : List Int} {m : Int} (h1 : m ∈ n :: ns) (h2 : ∀ y ∈ n :: ns, m ≤ y) : m = ns.foldl min n := by
  obtain ⟨a, b, c⟩ := foldl_min_mem ns n
  have hm : ns.foldl min n ∈ n :: ns := by
    rcases a with a | a
    · rw [a]; exact List.mem_cons_self
    · exact List.mem_cons_of_mem _ a
  have q1 := h2 _ hm
  have q2 : ns.foldl min n ≤ m := by
    rcases List.mem_cons.mp h1 with rfl | h
    · exact b
    · exact c m h
  omega
theorem max_uniq {n : Int} {ns : List Int} {m : Int} (h1 : m ∈ n :: ns) (h2 : ∀ y ∈ n :: ns, y ≤ m) : m = ns.foldl max n := by
  obtain ⟨a, b, c⟩ := foldl_max_mem ns n
  have hm : ns.foldl max n ∈ n :: ns := by
    rcases a with a | a
    · rw [a]; exact List.mem_cons_self
    · exact List.mem_cons_of_mem _ a
  have q1 := h2 _ hm
  have q2 : m ≤ ns.foldl max n := by
    rcases List.mem_cons.mp h1 with rfl | h
    · exact b
    · exact c m h
  omega
theorem ints_reads {X : Cx} {pins : List (Addr × Obj)} {σ : SG} {H : Hp} {s : Shared} (I : Inv X pins σ H s) : ∀ {ns : List Int} {us : List Value}, Vals (ns.map V.int) us → ∃ as, ReadsAll s.heap us (ns.map PyData.int) as
  | [], _, .nil => ⟨[], .nil⟩
  | n :: ns, _, .cons r t => by
    obtain ⟨k, rfl⟩ := r
    obtain ⟨as, h⟩ := ints_reads I t
    exact ⟨_, .cons (.int n k) h⟩
theorem alike_ints (ns : List Int) : PySem.W.AlikeAll (ns.map PyData.int) := by
  refine ⟨fun x hx y hy => ?_, fun x hx => ?_⟩
  · obtain ⟨i, _, rfl⟩ := List.mem_map.mp hx
    obtain ⟨j, _, rfl⟩ := List.mem_map.mp hy
    rfl
  · obtain ⟨i, _, rfl⟩ := List.mem_map.mp hx
    simp
theorem depth_ints : ∀ ns : List Int, PyData.depthAll (ns.map PyData.int) ≤ 1
  | [] => Nat.zero_le _
  | n :: ns => by
    have := depth_ints ns
    simp only [List.map_cons, PyData.depthAll, PyData.depth]
    omega
theorem min_tup_ok {X : Cx} (hc : X.calm = true) (hu : X.A.units + 100 < cLine) {pins : List (Addr × Obj)} {s : Shared} {σ : SG} {H : Hp} {a : Addr} {n : Int} {ns : List Int} {us : List Value} {Q : VK} (I : Inv X pins σ H s) (r : Vals [V.ref a] us) (sa : SqT X.K H a ((n :: ns).map V.int)) (q : Q (.int (ns.foldl min n)) H) :
    wpAny (model X.prog X.w) X.A (call (.builtin "min") us) (EP X pins σ Q) X.xe s := by
  obtain ⟨its, rv, hl, _⟩ := I.tuple sa
  rw [Vals.ref1 r]
  obtain ⟨as, hr⟩ := ints_reads I rv
  have hd := depth_ints (n :: ns)
  refine PySem.W.min_tuple_data (x := .int n) (xs := ns.map .int) (I.ok.hd hc) (show s.heap.IsTuple a its.toArray from hl) hr (alike_ints (n :: ns)) (show X.A.units + 1 + PyData.depthAll ((n :: ns).map PyData.int) < cLine by omega) fun i v h' tk bs _ hv hk => ?_
  rw [PySem.W.minD_ints] at hv
  cases hv
  exact ⟨.int _, H, I.kept hk, ⟨_, rfl⟩, q⟩
theorem max_tup_ok {X : Cx} (hc : X.calm = true) (hu : X.A.units + 100 < cLine) {pins : List (Addr × Obj)} {s : Shared} {σ : SG} {H : Hp} {a : Addr} {n : Int} {ns : List Int} {us : List Value} {Q : VK} (I : Inv X pins σ H s) (r : Vals [V.ref a] us) (sa : SqT X.K H a ((n :: ns).map V.int)) (q : Q (.int (ns.foldl max n)) H) :
    wpAny (model X.prog X.w) X.A (call (.builtin "max") us) (EP X pins σ Q) X.xe s := by
  obtain ⟨its, rv, hl, _⟩ := I.tuple sa
  rw [Vals.ref1 r]
  obtain ⟨as, hr⟩ := ints_reads I rv
  have hd := depth_ints (n :: ns)
  refine PySem.W.max_tuple_data (x := .int n) (xs := ns.map .int) (I.ok.hd hc) (show s.heap.IsTuple a its.toArray from hl) hr (alike_ints (n :: ns)) (show X.A.units + 1 + PyData.depthAll ((n :: ns).map PyData.int) < cLine by omega) fun i v h' tk bs _ hv hk => ?_
  rw [PySem.W.maxD_ints] at hv
  cases hv
  exact ⟨.int _, H, I.kept hk, ⟨_, rfl⟩, q⟩
theorem sum_tup_ok {X : Cx} (hc : X.calm = true) {pins : List (Addr × Obj)} {s : Shared} {σ : SG} {H : Hp} {a : Addr} {ns : List Int} {us : List Value} {Q : VK} (I : Inv X pins σ H s) (r : Vals [V.ref a] us) (sa : SqT X.K H a (ns.map V.int)) (q : Q (.int ns.sum) H) :
    wpAny (model X.prog X.w) X.A (call (.builtin "sum") us) (EP X pins σ Q) X.xe s := by
  obtain ⟨its, rv, hl, _⟩ := I.tuple sa
  rw [Vals.ref1 r]
  have hl : s.heap.IsTuple a its.toArray := hl
  have hi := rv.ints
  obtain ⟨xs, e⟩ := hi.allInts.items
  have hn : numsOf (intItems xs).toList = ns := by rw [← e]; exact hi.numsOf
  rw [nums_intItems] at hn
  rw [e] at hl
  refine PySem.W.ktm_sumG (I.ok.hd hc) hl fun h' tk t' hk => ?_
  rw [preSum_eq, List.take_of_length_le (by simp), hn]
  exact ⟨.int _, H, I.kept hk, ⟨_, rfl⟩, q⟩
/-- pairs as they stand -/
theorem pairs_rp {K : PySem.W.Frag} {F H : Hp} (le : Same F H) : ∀ {xs : List PyData} {vs : List V} {prs : List (PyData × PyData)}, RpA K F xs vs → pairsD xs = some prs → ∃ (ps : List Addr) (kvs : List (L2.Key × V)), vs = ps.map V.ref ∧ Paired (fun p kv => SqT K H p [kV kv.1, kv.2]) ps kvs ∧ RpK K F prs kvs
  | [], vs, prs, h, e => by
    cases e
    unfold RpA at h
    subst h
    exact ⟨[], [], rfl, .nil, by simp [RpK]⟩
  | x :: xs, vs, prs, h, e => by
    unfold RpA at h
    obtain ⟨v, r, rfl, h1, h2⟩ := h
    unfold pairsD at e
    split at e
    · rename_i e0; cases e0
    · rename_i k d r' e0
      cases e0
      split at e
      · rename_i q eq
        split at e
        · rename_i ps0 e1
          cases e
          obtain ⟨ps, kvs, rfl, a1, a2⟩ := pairs_rp le h2 e1
          unfold Rp at h1
          obtain ⟨a, ws, rfl, sa, ra⟩ := h1
          unfold RpA at ra
          obtain ⟨v1, r1, rfl, b1, ra⟩ := ra
          unfold RpA at ra
          obtain ⟨v2, r2, rfl, b2, ra⟩ := ra
          unfold RpA at ra
          subst ra
          obtain rfl := keyD_kV eq b1
          refine ⟨a :: ps, (q, v2) :: kvs, rfl, .cons (SqT.mono le sa) a1, ?_⟩
          unfold RpK
          exact ⟨q, v2, kvs, rfl, eq, b2, a2⟩
        · cases e
      · cases e
    · cases e
theorem merge_rp {K : PySem.W.Frag} {F : Hp} : ∀ {prs : List (PyData × PyData)} {kvs : List (L2.Key × V)} {acc : List (PyData × PyData)} {kacc : List (L2.Key × V)}, RpK K F prs kvs → RpK K F acc kacc → RpK K F (dMerge acc prs) (mergeK kacc kvs)
  | [], kvs, acc, kacc, h, ha => by
    unfold RpK at h
    subst h
    exact ha
  | (k, d) :: prs, kvs, acc, kacc, h, ha => by
    unfold RpK at h
    obtain ⟨q, v, r, rfl, e, h1, h2⟩ := h
    unfold dMerge
    rw [e]
    show RpK K F (dMerge (dPut acc k q d) prs) (mergeK (putK kacc q v) r)
    exact merge_rp h2 (RpK.put ha e h1)
/-- pairs with keys that are tuples, as they stand -/
theorem pairs_rpN {X : Cx} {pins : List (Addr × Obj)} {σ : SG} {F H : Hp} {s : Shared} (I : Inv X pins σ H s) (le : Same F H) : ∀ {xs : List PyData} {vs : List V} {prs : List (PyData × PyData)}, RpA X.K F xs vs → pairsN xs = some prs →
    ∃ (ts : List Addr) (ps : List (NestedKey × Addr × Value)), vs = ts.map V.ref ∧ RpN X.K F prs ps ∧ ps.length = ts.length ∧ prs.length = xs.length ∧ ∀ (j : Nat) (p : NestedKey × Addr × Value), ps[j]? = some p → ∃ t, ts[j]? = some t ∧ IsTup s.heap t #[.ref p.2.1, p.2.2]
  | [], vs, prs, h, e => by
    cases e
    unfold RpA at h
    subst h
    exact ⟨[], [], rfl, by simp [RpN], rfl, rfl, fun j p hj => by simp at hj⟩
  | x :: xs, vs, prs, h, e => by
    unfold RpA at h
    obtain ⟨v, r, rfl, h1, h2⟩ := h
    unfold pairsN at e
    split at e
    · rename_i e0; cases e0
    · rename_i k d r' e0
      cases e0
      split at e
      · rename_i q eq
        split at e
        · rename_i ps0 e1
          cases e
          obtain ⟨ts, ps, rfl, a1, a2, a3, a4⟩ := pairs_rpN I le h2 e1
          unfold Rp at h1
          obtain ⟨a, ws, rfl, sa, ra⟩ := h1
          unfold RpA at ra
          obtain ⟨v1, r1, rfl, b1, ra⟩ := ra
          unfold RpA at ra
          obtain ⟨v2, r2, rfl, b2, ra⟩ := ra
          unfold RpA at ra
          subst ra
          obtain ⟨b, rfl⟩ := top_ref eq b1
          obtain ⟨its, rv, ht, _⟩ := I.tuple (SqT.mono le sa)
          obtain ⟨u1, u2, rfl, ru1, ru2⟩ := vals2 rv
          cases (show u1 = Value.ref b from ru1)
          refine ⟨a :: ts, (q, b, u2) :: ps, rfl, ?_, by rw [List.length_cons, List.length_cons, a2], by rw [List.length_cons, List.length_cons, a3], fun j p hj => ?_⟩
          · unfold RpN
            exact ⟨q, b, u2, v2, ps, rfl, eq, b1, ru2, b2, a1⟩
          · cases j with
            | zero => have e' : (q, b, u2) = p := Option.some.inj hj; subst e'; exact ⟨a, rfl, ht⟩
            | succ j => obtain ⟨t, z1, z2⟩ := a4 j p (by simpa using hj); exact ⟨t, by simpa using z1, z2⟩
        · cases e
      · cases e
    · cases e
/-- a dict that was just made -/
theorem dictN_made {X : Cx} {pins : List (Addr × Obj)} {σ : SG} {F H : Hp} {s : Shared} {h' : Heap} {tk : Nat} {kvs : List (PyData × PyData)} {xs : List (NestedKey × Addr × Value)} {Q : VK} (I : Inv X pins σ H s) (le : Same F H) (r : RpN X.K F kvs xs) (hz : xs.length ≤ sizeLine)
    (hd : h'.DictOfH (nestedKind X.prog X.w) s.heap.objs.size xs) (k : ∀ b o, s.heap.get? b = some o → h'.get? b = some o) (ne : kvs ≠ []) (q : Res X.K F H (.ow (.dict kvs)) Q) : EP X pins σ Q (.ref s.heap.objs.size) { s with heap := h', toks := tk } := by
  have hm : (s.heap.objs.size == sysModules) = false := beq_eq_false_iff_ne.mpr (Nat.ne_of_gt I.big)
  have hp : H s.heap.objs.size = none := I.hok.fresh (Nat.le_refl _)
  have nd : (xs.map fun x => x.1).Nodup := by obtain ⟨_, _, _, _, _, _, _, _, n⟩ := hd; exact n
  have hk : ∀ x ∈ xs, ∀ w w' : World, x.1.hash w = x.1.hash w' := fun x hx => (RpN.keys I (RpN.mono le _ _ r) x hx).2
  obtain ⟨o, ent, ok⟩ := dn_new (H' := H) hd hk
  have new : ObjOk X.prog X.w (upd H s.heap.objs.size (DN s.heap.objs.size o)) h' s.heap.objs.size (DN s.heap.objs.size o) := ⟨ok.1, ⟨o, ok.1⟩, fun g1 g2 q k => k o q⟩
  refine ⟨.ref s.heap.objs.size, upd H s.heap.objs.size (DN s.heap.objs.size o), I.laid (t' := tk) k (Nat.le_refl _) new, rfl, ?_⟩
  exact q (.ref s.heap.objs.size) F _ (Fr.refl.up hp) (le.trans (same_up hp)) ⟨s.heap.objs.size, rfl, ⟨le.free hp, .inr ⟨o, xs, upd_same, ⟨⟨.inl upd_same, ent, hm, nd, hz⟩, ne⟩, r⟩⟩, hp⟩
theorem keys_stay {X : Cx} {pins : List (Addr × Obj)} {σ : SG} {H : Hp} {s : Shared} {kvs : List (PyData × PyData)} {xs : List (NestedKey × Addr × Value)} {wr : List Addr} (I : Inv X pins σ H s) (r : RpN X.K H kvs xs) (hw : ∀ b o vs n, s.heap.get? b = some o → o.data = .seq vs n → b ∉ wr) : KeysStay (nestedKind X.prog X.w) s.heap s.heap.objs.size wr xs :=
  fun h' hk x hx => nestedKind_stays.stays (fun b o vs n e z => hk b o (Nat.ne_of_lt (Heap.lt_size e)) (hw b o vs n e z) e) (r.keys I x hx).1
theorem storedAll_le (ps : List (NestedKey × Addr × Value)) : (storedAllH [] ps).length ≤ ps.length := by
  have := storedAllH_length ps []
  simpa using this
theorem dctN_list {X : Cx} (hc : X.calm = true) (hu : X.A.units + 100 < cLine) {pins : List (Addr × Obj)} {σ : SG} {F H : Hp} {s : Shared} {xs : List PyData} {prs : List (PyData × PyData)} {v : V} {u : Value} {Q : VK} (I : Inv X pins σ H s) (ru : RelV v u) (le : Same F H) (hv : Vw X.K F H (.list xs) v) (hp : pairsN xs = some prs)
    (ne : prs.isEmpty = false) (q : Res X.K F H (.ow (.dict (dMergeN [] prs))) Q) : wpAny (model X.prog X.w) X.A (call (.type "dict") [u]) (EP X pins σ Q) X.xe s := by
  obtain ⟨a, vs, rfl, sa, ra⟩ := hv.lst le
  cases (show u = Value.ref a from ru)
  obtain ⟨its, rv, pl, hz⟩ := I.list sa
  obtain ⟨ts, ps, rfl, rn, l1, l2, tp⟩ := pairs_rpN I le ra hp
  have ei := refs_at rv
  subst ei
  rw [List.length_map] at hz
  have rn' := RpN.mono le _ _ rn
  have P := PairArg.list (prog := X.prog) (w := X.w) a (ts.map Value.ref).toArray (fun j => ts.getD j 0) (ps.map fun p => (Value.ref p.2.1, p.2.2))
  have pit : PairItems s.heap (ts.map Value.ref).toArray (fun j => ts.getD j 0) (ps.map fun p => (Value.ref p.2.1, p.2.2)) := by
    refine ⟨by simp [l1], fun j k v hj => ?_⟩
    rw [List.getElem?_map] at hj
    cases e : ps[j]? with
    | none => rw [e] at hj; cases hj
    | some p =>
      rw [e] at hj
      cases hj
      obtain ⟨t, e1, e2⟩ := tp j p e
      have gd : ts.getD j 0 = t := by rw [List.getD_eq_getElem?_getD, e1]; rfl
      refine ⟨by simp [e1, gd], .inl ?_⟩
      show IsTup s.heap (ts.getD j 0) _
      rw [gd]
      exact e2
  refine call_dict_pairsH (knd := nestedKind X.prog X.w) (ps := ps) P (I.ok.hd hc) ?_ ⟨pl, pit⟩ ⟨by simp, fun i key v hr => ?_⟩ (keys_stay I rn' fun _ _ _ _ _ _ m => nomatch m) (by rw [List.length_map, l1]; exact hz) fun h' tk hd k => ?_
  · show X.A.in1.in1.units + 8 < cLine
    rw [Around.in1_units, Around.in1_units]
    omega
  · have hr : (ps.map fun p => (Value.ref p.2.1, p.2.2))[i]? = some (key, v) := hr
    rw [List.getElem?_map] at hr
    cases e : ps[i]? with
    | none => rw [e] at hr; cases hr
    | some p =>
      rw [e] at hr
      cases hr
      exact ⟨p.1, p.2.1, rfl, rfl⟩
  · exact dictN_made I le (RpN.merge rn (by simp [RpN])) (Nat.le_trans (storedAll_le ps) (by rw [l1]; exact hz)) hd (fun b o e => k b o (fun m => nomatch m) e) (rn.merge_ne ne) q
theorem bt_ok (b : Bt) (hc : X.calm = true) (hg : X.A.guards = some []) (hu : X.A.units + 100 < cLine) : CallR X (btV b) (rBt X.K b) := by
  intro pins s σ H xs us Q I r h
  obtain ⟨F, ds, w, le, hv, hb, q⟩ := h
  unfold btD at hb
  split at hb
  · cases hb
    obtain ⟨v, rfl, hx⟩ := hv.one
    obtain ⟨a, vs, rfl, sa, ra⟩ := hx.lst le
    exact call_len_seq pins s σ H _ us Q I r ⟨a, vs, rfl, .inl sa, by rw [← ra.len]; exact q.same le rfl⟩
  · cases hb
    obtain ⟨v, rfl, hx⟩ := hv.one
    obtain ⟨a, vs, rfl, sa, ra⟩ := hx.tup
    exact call_len_seq pins s σ H _ us Q I r ⟨a, vs, rfl, .inr (SqT.mono le sa), by rw [← ra.len]; exact q.same le rfl⟩
  · cases hb
    obtain ⟨v, rfl, hx⟩ := hv.one
    obtain ⟨a, rfl, z⟩ := hx.dct le
    obtain ⟨u, rfl, ru⟩ := vals1 r
    cases ru
    rcases z with ⟨kv, rd, rk⟩ | ⟨o, kv, n, rn⟩
    · exact d_len I rd fun t s' I' => ⟨.int kv.length, H, I', ⟨t, rfl⟩, by rw [← rk.len]; exact q.same le rfl⟩
    · have hl := rn.len
      exact call_len_dictH n.sys (dn_of I n (RpN.mono le _ _ rn)) (by have := n.sz; rw [sizeLine_eq] at this; omega) ⟨.int kv.length, H, I.tok _, ⟨_, rfl⟩, by rw [← hl]; exact q.same le rfl⟩
  · obtain ⟨v, rfl, hx⟩ := hv.one
    split at hb
    · rename_i ns e
      cases hb
      obtain ⟨a, vs, rfl, sa, ra⟩ := hx.lst le
      obtain rfl := ra.ints e
      exact cr_sum hc pins s σ H _ us Q I r ⟨a, ns, rfl, sa, q.same le rfl⟩
    · cases hb
  · obtain ⟨v, rfl, hx⟩ := hv.one
    split at hb
    · rename_i ns e
      cases hb
      obtain ⟨a, vs, rfl, sa, ra⟩ := hx.tup
      obtain rfl := ra.ints e
      exact sum_tup_ok hc I r (SqT.mono le sa) (q.same le rfl)
    · cases hb
  · obtain ⟨v, rfl, hx⟩ := hv.one
    split at hb
    · rename_i n ns e
      cases hb
      obtain ⟨a, vs, rfl, sa, ra⟩ := hx.lst le
      obtain rfl := ra.ints e
      exact cr_min hc pins s σ H _ us Q I r ⟨a, n :: ns, rfl, sa, by simp, fun m hm hy => by rw [min_uniq hm hy]; exact q.same le rfl⟩
    · cases hb
    · obtain ⟨u, rfl, ru⟩ := vals1 r
      exact least_data_ok hb hc hu I ru le hx q
  · obtain ⟨v, rfl, hx⟩ := hv.one
    split at hb
    · rename_i n ns e
      cases hb
      obtain ⟨a, vs, rfl, sa, ra⟩ := hx.lst le
      obtain rfl := ra.ints e
      exact cr_max hc pins s σ H _ us Q I r ⟨a, n :: ns, rfl, sa, by simp, fun m hm hy => by rw [max_uniq hm hy]; exact q.same le rfl⟩
    · cases hb
    · obtain ⟨u, rfl, ru⟩ := vals1 r
      exact most_data_ok hb hc hu I ru le hx q
  · obtain ⟨v, rfl, hx⟩ := hv.one
    split at hb
    · rename_i n ns e
      cases hb
      obtain ⟨a, vs, rfl, sa, ra⟩ := hx.tup
      obtain rfl := ra.ints e
      exact min_tup_ok hc hu I r (SqT.mono le sa) (q.same le rfl)
    · cases hb
  · obtain ⟨v, rfl, hx⟩ := hv.one
    split at hb
    · rename_i n ns e
      cases hb
      obtain ⟨a, vs, rfl, sa, ra⟩ := hx.tup
      obtain rfl := ra.ints e
      exact max_tup_ok hc hu I r (SqT.mono le sa) (q.same le rfl)
    · cases hb
  · cases hb
    rename_i i j
    obtain ⟨v, w, rfl, hx, hy⟩ := hv.two
    obtain rfl := hx.int
    obtain rfl := hy.int
    refine call_min2 hc pins s σ H _ us Q I r ⟨i, j, rfl, ?_⟩
    rw [show (if j < i then j else i) = min i j by split <;> omega]
    exact q.same le rfl
  · cases hb
    rename_i i j
    obtain ⟨v, w, rfl, hx, hy⟩ := hv.two
    obtain rfl := hx.int
    obtain rfl := hy.int
    refine call_max2 hc pins s σ H _ us Q I r ⟨i, j, rfl, ?_⟩
    rw [show (if j > i then j else i) = max i j by split <;> omega]
    exact q.same le rfl
  · cases hb
    rename_i i
    obtain ⟨v, rfl, hx⟩ := hv.one
    obtain rfl := hx.int
    refine call_abs pins s σ H _ us Q I r ⟨i, rfl, ?_⟩
    rw [show (if i < 0 then -i else i) = (i.natAbs : Int) by split <;> omega]
    exact q.same le rfl
  · cases hb
    rename_i i
    obtain ⟨v, rfl, hx⟩ := hv.one
    obtain rfl := hx.int
    exact call_int1 pins s σ H _ us Q I r (.inl ⟨i, rfl, q.same le rfl⟩)
  · cases hb
    rename_i i
    obtain ⟨v, rfl, hx⟩ := hv.one
    obtain rfl := hx.bool
    exact call_int1 pins s σ H _ us Q I r (.inr ⟨i, rfl, q.same le rfl⟩)
  · split at hb
    · cases hb
      obtain ⟨v, rfl, hx⟩ := hv.one
      obtain ⟨u, rfl, ru⟩ := vals1 r
      exact sorted_data_ok (by assumption) hu I ru le hx q
    · cases hb
  · split at hb
    · cases hb
      obtain ⟨v, rfl, hx⟩ := hv.one
      obtain ⟨u, rfl, ru⟩ := vals1 r
      exact repr_data_ok (by assumption) hg hu I ru le hx (q.same le rfl)
    · cases hb
  · split at hb
    · cases hb
      rename_i i hz
      obtain ⟨v, rfl, hx⟩ := hv.one
      obtain rfl := hx.int
      exact call_str_int pins s σ H _ us Q I r ⟨i, rfl, hz, q.same le rfl⟩
    · cases hb
  · cases hb
    obtain ⟨v, rfl, hx⟩ := hv.one
    obtain ⟨a, vs, rfl, sa, ra⟩ := hx.lst le
    exact call_list_of pins s σ H _ us Q I r ⟨a, vs, rfl, .inl sa, fun p hp => q.newL le ra hp⟩
  · cases hb
    obtain ⟨v, rfl, hx⟩ := hv.one
    obtain ⟨a, vs, rfl, sa, ra⟩ := hx.tup
    exact call_list_of pins s σ H _ us Q I r ⟨a, vs, rfl, .inr (SqT.mono le sa), fun p hp => q.newL le ra hp⟩
  · cases hb
    obtain ⟨v, rfl, hx⟩ := hv.one
    obtain ⟨a, vs, rfl, sa, ra⟩ := hx.lst le
    exact call_tuple_of pins s σ H _ us Q I r ⟨a, vs, rfl, .inl ⟨sa, fun p hp => q.newT le ra hp⟩⟩
  · cases hb
    obtain ⟨v, rfl, hx⟩ := hv.one
    obtain ⟨a, vs, rfl, sa, ra⟩ := hx.tup
    exact call_tuple_of pins s σ H _ us Q I r ⟨a, vs, rfl, .inr ⟨SqT.mono le sa, q.same le ⟨a, vs, rfl, sa, ra⟩⟩⟩
  · obtain ⟨v, rfl, hx⟩ := hv.one
    split at hb
    · rename_i bs e
      cases hb
      obtain ⟨a, vs, rfl, sa, ra⟩ := hx.lst le
      obtain rfl := ra.bools e
      exact cr_all hc pins s σ H _ us Q I r ⟨a, bs, rfl, sa, q.same le rfl⟩
    · cases hb
  · obtain ⟨v, rfl, hx⟩ := hv.one
    split at hb
    · rename_i bs e
      cases hb
      obtain ⟨a, vs, rfl, sa, ra⟩ := hx.lst le
      obtain rfl := ra.bools e
      exact cr_any hc pins s σ H _ us Q I r ⟨a, bs, rfl, sa, q.same le rfl⟩
    · cases hb
  · obtain ⟨v, rfl, hx⟩ := hv.one
    split at hb
    · rename_i prs e
      cases hb
      obtain ⟨a, vs, rfl, sa, ra⟩ := hx.lst le
      obtain ⟨ps, kvs, rfl, a1, a2⟩ := pairs_rp le ra e
      refine call_dictP hc pins s σ H _ us Q I r ⟨a, ps, kvs, rfl, sa, a1, fun p hp => ?_⟩
      exact q (.ref p) F _ (Fr.refl.up hp) (le.trans (same_up hp)) ⟨p, rfl, ⟨le.free hp, .inl ⟨_, upd_same, merge_rp a2 (by simp [RpK])⟩⟩, hp⟩
    · split at hb
      · rename_i prs e
        split at hb
        · rename_i hne
          cases hb
          obtain ⟨u, rfl, ru⟩ := vals1 r
          exact dctN_list hc hu I ru le hx e hne.2 q
        · cases hb
      · cases hb
  · cases hb
end
end Bx

set_option Elab.async false
set_option linter.all false
set_option maxRecDepth 100000
set_option autoImplicit false
set_option maxHeartbeats 2000000
/-! Lists of values; what is frozen; isinstance; methods that change a list; what is walked. -/
namespace Bx
open PySem PySem.Spec PyProof.Rows L2

section
variable {K : PySem.W.Frag} {F H F1 H1 F2 H2 : Hp} {r r1 r2 : Env} {σ : SG}
def RpVL (K : PySem.W.Frag) (F H : Hp) (r : Env) (σ : SG) : List Sl → List V → Prop
  | [], vs => vs = []
  | w :: ws, vs => ∃ v t, vs = v :: t ∧ RpV K F H r σ w v ∧ RpVL K F H r σ ws t
def NwL (r : Env) (σ : SG) (H : Hp) : List Sl → List V → Prop
  | w :: ws, v :: vs => Nw r σ H w v ∧ NwL r σ H ws vs
  | _, _ => True
structure PeL (K : PySem.W.Frag) (F H : Hp) (r : Env) (σ : SG) (r' : Env) (ws : List Sl) (vs : List V) (F' H' : Hp) : Prop where
  fr : Fr (Own r σ) F H F' H'
  wd : Wd K F' H' r' σ
  sub : ∀ a, Own r' σ a → Own r σ a
  rp : RpVL K F' H' r' σ ws vs
  nw : NwL r σ H ws vs
theorem RpVL.go : ∀ {ws : List Sl} {vs : List V}, RpVL K F1 H1 r1 σ ws vs → Fr (Own r1 σ) F1 H1 F2 H2 → (∀ a, Own r2 σ a → Own r1 σ a) → RpVL K F2 H2 r2 σ ws vs
  | [], vs, q, f, s => q
  | w :: ws, vs, q, f, s => by
    unfold RpVL at q ⊢
    obtain ⟨v, t, e, a, b⟩ := q
    exact ⟨v, t, e, a.go f s, RpVL.go b f s⟩
theorem RpVL.len : ∀ {ws : List Sl} {vs : List V}, RpVL K F1 H1 r1 σ ws vs → ws.length = vs.length
  | [], vs, q => by unfold RpVL at q; subst q; rfl
  | w :: ws, vs, q => by
    unfold RpVL at q
    obtain ⟨v, t, rfl, a, b⟩ := q
    rw [List.length_cons, List.length_cons, RpVL.len b]
theorem seeL_ok (wd : Wd K F H r σ) : ∀ {ws : List Sl} {vs : List V} {ds : List PyData}, RpVL K F H r σ ws vs → seeL r ws = some ds → VwL K F H ds vs
  | [], vs, ds, q, e => by
    unfold RpVL at q
    subst q
    cases e
    simp [VwL]
  | w :: ws, vs, ds, q, e => by
    unfold RpVL at q
    obtain ⟨v, t, rfl, a, b⟩ := q
    unfold seeL at e
    split at e
    · rename_i d l h1 h2
      cases e
      unfold VwL
      exact ⟨v, t, rfl, see_ok wd a h1, seeL_ok wd b h2⟩
    · cases e
/-- the addresses of the values of one's own -/
def ownA : Sl → V → List Addr
  | .ow _, .ref a => [a]
  | _, _ => []
def ownL : List Sl → List V → List Addr
  | w :: ws, v :: vs => ownA w v ++ ownL ws vs
  | _, _ => []
theorem ownL_facts : ∀ {ws : List Sl} {vs : List V} {a : Addr} {rN : Env} {HN : Hp}, RpVL K F H r σ ws vs → NwL rN σ HN ws vs → a ∈ ownL ws vs → F a = none ∧ (∃ o, H a = some o) ∧ ¬ Own r σ a ∧ (HN a = none ∨ Own rN σ a)
  | [], vs, a, rN, HN, q, n, m => by simp [ownL] at m
  | w :: ws, vs, a, rN, HN, q, n, m => by
    unfold RpVL at q
    obtain ⟨v, t, rfl, qa, qb⟩ := q
    unfold NwL at n
    simp only [ownL, List.mem_append] at m
    rcases m with m | m
    · cases w with
      | ow d =>
        obtain ⟨b, rfl, o, no⟩ := qa
        simp only [ownA, List.mem_singleton] at m
        subst m
        exact ⟨o.1, o.some, no, n.1 a rfl⟩
      | _ => simp [ownA] at m
    · exact ownL_facts qb n.2 m
/-- what is to be frozen is frozen -/
theorem freeze {ws : List Sl} {vs : List V} {ds : List PyData} (p : PeL K F H r σ r1 ws vs F1 H1) (e : fzL ws = some ds) : ∃ F2, Fr (Own r σ) F H F2 H1 ∧ Wd K F2 H1 r1 σ ∧ RpA K F2 ds vs ∧ Same F1 F2 := by
  let F2 : Hp := fun b => if b ∈ ownL ws vs then H1 b else F1 b
  have hin : ∀ {b : Addr}, b ∈ ownL ws vs → F2 b = H1 b := fun hb => if_pos hb
  have hout : ∀ {b : Addr}, b ∉ ownL ws vs → F2 b = F1 b := fun hb => if_neg hb
  have s12 : Same F1 F2 := fun b o q => by
    by_cases hb : b ∈ ownL ws vs
    · have z := (ownL_facts p.rp p.nw hb).1
      rw [q] at z
      cases z
    · rw [hout hb]
      exact q
  have le2 : Same F2 H1 := fun b o q => by
    by_cases hb : b ∈ ownL ws vs
    · rw [hin hb] at q
      exact q
    · rw [hout hb] at q
      exact p.wd.le b o q
  refine ⟨F2, ⟨p.fr.ff.trans s12, fun b o q => ?_, p.fr.hh⟩, ⟨le2, p.wd.len, fun i w h => ?_, p.wd.inj⟩, ?_, s12⟩
  · by_cases hb : b ∈ ownL ws vs
    · obtain ⟨z1, _, _, z4⟩ := ownL_facts p.rp p.nw hb
      exact .inr ⟨p.fr.ff.free z1, z4.symm⟩
    · rw [hout hb] at q
      exact p.fr.new b o q
  · have q := p.wd.sl i w h
    cases w with
    | no => trivial
    | fr d => obtain ⟨v, e1, z⟩ := q; exact ⟨v, e1, Rp.mono s12 _ _ z⟩
    | ow d =>
      obtain ⟨a, e1, z⟩ := q
      refine ⟨a, e1, ?_, ?_⟩
      · rw [hout fun hb => (ownL_facts p.rp p.nw hb).2.2.1 ⟨i, d, h, e1⟩]
        exact z.1
      · obtain ⟨_, z⟩ := z
        cases d with
        | list xs => obtain ⟨vs, z1, z2⟩ := z; exact ⟨vs, z1, RpA.mono s12 _ _ z2⟩
        | dict xs =>
          rcases z with ⟨vs, z1, z2⟩ | ⟨o, vs, z1, z3, z2⟩
          · exact .inl ⟨vs, z1, RpK.mono s12 _ _ z2⟩
          · exact .inr ⟨o, vs, z1, z3, RpN.mono s12 _ _ z2⟩
        | _ => exact z.elim
    | ex C => obtain ⟨a, e1, z⟩ := q; exact ⟨a, e1, s12 _ _ z⟩
    | rz C => exact q.elim
    | lk i => exact q.elim
    | ln i => exact q.elim
  · have go : ∀ {us : List Sl} {xs : List V} {es : List PyData}, RpVL K F1 H1 r1 σ us xs → (∀ a ∈ ownL us xs, a ∈ ownL ws vs) → fzL us = some es → RpA K F2 es xs := by
      intro us
      induction us with
      | nil =>
        intro xs es q _ e
        unfold RpVL at q
        subst q
        cases e
        exact RpA.nil
      | cons w us ih =>
        intro xs es q m e
        unfold RpVL at q
        obtain ⟨v, t, rfl, qa, qb⟩ := q
        unfold fzL at e
        split at e
        · rename_i d l h1 h2
          cases e
          refine RpA.cons ?_ (ih qb (fun a ha => m a (List.mem_append_right _ ha)) h2)
          cases w with
          | fr x => cases h1; exact Rp.mono s12 _ _ qa
          | ow x =>
            have e2 : x = d := Option.some.inj h1
            subst e2
            obtain ⟨a, rfl, o, _⟩ := qa
            have ha : F2 a = H1 a := hin (m a (List.mem_append_left _ (by simp [ownA])))
            obtain ⟨_, o⟩ := o
            cases x with
            | list ys => obtain ⟨zs, z1, z2⟩ := o; exact ⟨a, zs, rfl, .inl (.inl (ha.trans z1)), RpA.mono s12 _ _ z2⟩
            | dict ys =>
              rcases o with ⟨zs, z1, z2⟩ | ⟨o, zs, z1, z3, z2⟩
              · exact ⟨a, rfl, .inl ⟨zs, .inl (ha.trans z1), RpK.mono s12 _ _ z2⟩⟩
              · exact ⟨a, rfl, .inr ⟨o, zs, (z3.to (.inl (ha.trans z1))).n, RpN.mono s12 _ _ z2⟩⟩
            | _ => exact o.elim
          | _ => cases h1
        · cases e
    exact go p.rp (fun _ h => h) e
theorem PeL.of {w : Sl} {v : V} (p : Pe K F H r σ r1 w v F1 H1) : PeL K F H r σ r1 [w] [v] F1 H1 := ⟨p.fr, p.wd, p.sub, ⟨v, [], rfl, p.rp, rfl⟩, p.nw, trivial⟩
theorem freeze1 {w : Sl} {v : V} {d : PyData} (p : Pe K F H r σ r1 w v F1 H1) (e : fz w = some d) : ∃ F2, Fr (Own r σ) F H F2 H1 ∧ Wd K F2 H1 r1 σ ∧ Rp K F2 d v ∧ Same F1 F2 := by
  obtain ⟨F2, a, b, c, s⟩ := freeze (ds := [d]) (PeL.of p) (by unfold fzL; rw [e]; rfl)
  refine ⟨F2, a, b, ?_, s⟩
  unfold RpA at c
  obtain ⟨x, t, e1, c1, _⟩ := c
  cases e1
  exact c1
end

/-! ### isinstance -/
def tyN : Ty → String
  | .int => "int"
  | .bool => "bool"
  | .str => "str"
  | .list => "list"
  | .tuple => "tuple"
  | .dict => "dict"
def dtN : PyData → String
  | .none => "NoneType"
  | .bool _ => "bool"
  | .int _ => "int"
  | .str _ => "str"
  | .list _ => "list"
  | .tuple _ => "tuple"
  | .dict _ => "dict"
/-- isinstance asks such things, too -/
inductive TyY (K : PySem.W.Frag) (H : Hp) : V → Value → Prop where
  | x {v : V} {t : Value} (h : TyX K H v t) : TyY K H v t
  | n {a : Addr} {o : Obj} {xs : List (NestedKey × Addr × Value)} (e : DNk H a o xs) : TyY K H (.ref a) (.type "dict")
theorem kit_ofY {X : Cx} {pins : List (Addr × Obj)} {σ : SG} {H : Hp} {s : Shared} {x : V} {u t : Value} (I : Inv X pins σ H s) (rx : RelV x u) (ty : TyY X.K H x t) : ∃ P : Heap → Prop, PySem.W.KitX X.K u t P ∧ P s.heap ∧ u ≠ .builtin "__main__.__loader__#opaque" := by
  cases ty with
  | x h => exact kit_of I rx h
  | @n a o xs e =>
    cases (show u = Value.ref a from rx)
    exact ⟨_, PySem.W.kitx_dict, ⟨o, dn_raw I e.rd, e.ent.1.1⟩, fun z => nomatch z⟩
def rIsiY (K : PySem.W.Frag) : List V → Hp → VK → Prop := fun xs H Q => ∃ (x c : V) (t u : Value) (b : Bool), xs = [x, c] ∧ ClsV c u ∧ TyY K H x t ∧ PySem.W.kitOne K t u = some b ∧ Q (.bl b) H
def rIsiTY (K : PySem.W.Frag) : List V → Hp → VK → Prop := fun xs H Q => ∃ (x : V) (tp : Addr) (cs : List V) (t : Value) (us : List Value) (b : Bool), xs = [x, .ref tp] ∧ H tp = some (.tup cs) ∧ Paired ClsV cs us ∧ TyY K H x t ∧ PySem.W.kitAny K t us = some b ∧ Q (.bl b) H
theorem call_isiY {X : Cx} : CallR X (.builtin "isinstance") (rIsiY X.K) := by
  intro pins s σ H xs us Q I r h
  obtain ⟨x, c, t, u, b, rfl, k, ty, e, q⟩ := h
  obtain ⟨u1, u2, rfl, r1, r2⟩ := vals2 r
  have e2 := k.eq r2
  subst e2
  obtain ⟨P, Z, p, hx⟩ := kit_ofY I r1 ty
  exact PySem.W.kia_one Z I.kIn p e hx fun tk => ⟨.bl b, H, I.tok tk, rfl, q⟩
theorem call_isiTY {X : Cx} : CallR X (.builtin "isinstance") (rIsiTY X.K) := by
  intro pins s σ H xs us Q I r h
  obtain ⟨x, tp, cs, t, ws, b, rfl, hT, k, ty, e, q⟩ := h
  obtain ⟨u1, u2, rfl, r1, r2⟩ := vals2 r
  cases (show u2 = Value.ref tp from r2)
  obtain ⟨P, Z, p, hx⟩ := kit_ofY I r1 ty
  obtain ⟨_, its, rv, o, h1, h2, n, h3⟩ := (show ObjOk X.prog X.w H s.heap tp (.tup cs) from I.hok tp _ hT)
  have e3 := ClsV.all k rv
  subst e3
  obtain ⟨oc, od, dt, sl⟩ := o
  simp only at h2 h3
  subst h2 h3
  exact PySem.W.kia_tup Z I.kIn p h1 e hx fun tk => ⟨.bl b, H, I.tok tk, rfl, q⟩
theorem rp_tyx {K : PySem.W.Frag} {H : Hp} {d : PyData} {v : V} (q : Rp K H d v) : TyY K H v (.type (dtN d)) := by
  cases d with
  | none => unfold Rp at q; subst q; exact .x (.base .non)
  | bool b => unfold Rp at q; subst q; exact .x (.base (.bl b))
  | int i => unfold Rp at q; subst q; exact .x (.base (.int i))
  | str x => unfold Rp at q; subst q; exact .x (.base (.str x))
  | list xs =>
    unfold Rp at q
    obtain ⟨a, vs, rfl, s, _⟩ := q
    rcases s with (s | ⟨o, s⟩) | ⟨o, its, n, h1, h2, _⟩
    · exact .x (.base (.lst s))
    · exact .x (.base (.frz s))
    · exact .x (.kList h1 h2)
  | tuple xs =>
    unfold Rp at q
    obtain ⟨a, vs, rfl, s, _⟩ := q
    rcases s with (s | ⟨o, s⟩) | ⟨o, its, n, h1, h2, _⟩
    · exact .x (.base (.tup s))
    · exact .x (.fTuple s)
    · exact .x (.kTuple h1 h2)
  | dict xs =>
    unfold Rp at q
    obtain ⟨a, rfl, q⟩ := q
    rcases q with ⟨vs, s, _⟩ | ⟨o, vs, s, _⟩
    · rcases s with s | ⟨o, s⟩
      · exact .x (.base (.dK s))
      · exact .x (.fDict s)
    · exact .n s
theorem kit_is (d : PyData) (t : Ty) : kitB (dtN d) (tyN t) = some (isTy d t) := by
  cases d <;> cases t <;> first | rfl | decide +kernel
theorem kit_any {K : PySem.W.Frag} (d : PyData) : ∀ ts : List Ty, PySem.W.kitAny K (.type (dtN d)) (ts.map fun t => Value.type (tyN t)) = some (ts.any (isTy d))
  | [] => rfl
  | t :: ts => by
    refine kitAny_cons (b := isTy d t) (kit_ty (kit_is d t)) (fun e => ?_) (fun e => ?_)
    · rw [List.any_cons, e, Bool.false_or]
      exact kit_any d ts
    · rw [List.any_cons, e, Bool.true_or]

/-! ### methods that change a list -/
def muId : Mu → String
  | .append => "list.append"
  | .extend => "list.extend"
  | .pop => "list.pop"
  | .insert => "list.insert"
  | .reverse => "list.reverse"
  | .clear => "list.clear"
/-- the arguments: frozen, or (extend) looked at -/
def MuArgs (K : PySem.W.Frag) (F H : Hp) (m : Mu) (ds : List PyData) (vs : List V) : Prop := match m with
  | .extend => VwL K F H ds vs
  | _ => RpA K F ds vs
def rMu (K : PySem.W.Frag) (m : Mu) : V → List V → Hp → VK → Prop := fun x vs H Q => ∃ F a xs ws ds y ys, x = .ref a ∧ Same F H ∧ H a = some (.lst ws) ∧ RpA K F xs ws ∧ MuArgs K F H m ds vs ∧ muD m xs ds = some (y, ys) ∧
  ∀ v us, Rp K F y v → RpA K F ys us → Q v (upd H a (.lst us))
section
variable {X : Cx}
theorem extend_meets (l : Addr) (items : Array Value) (n : Nat) (b : Addr) (items2 : Array Value) (n2 : Nat) (dd : Option Addr) (sl : Array (Option Value)) (hc0 : ¬(!items.isEmpty && Builtin.List.listTooLong (items.size + items2.size)) = true) (hc1 : items.size ≤ sizeLine) (hs2 : items.size + items2.size ≤ sizeLine + 1) :
    Meets (Builtin.«list.extend» ⟨[.ref l, .ref b], []⟩) (fun _ R s => s.heap.get? l = some { cls := .type "list", data := .seq items n } ∧ s.heap.get? b = some { cls := .type "list", dict := dd, data := .seq items2 n2, slots := sl } ∧
      R (.ok (.ret Value.none)) { s with heap := s.heap.update l (Obj.mapSeq fun x => x ++ items2) }) :=
  .of_wp fun prog w A R s h => by
    obtain ⟨hp, g, d, tk, os⟩ := s
    obtain ⟨hl, hb, h⟩ := h
    have f1 := AutoSeq1.idx_int
    have f2 := AutoSeq1.sub_tuple_tuple
    have f3 := AutoSeq1.sub_list_list
    have f4 := AutoSeq1.sub_tuple_list
    have f5 := AutoSeq1.sub_list_tuple
    have hz' : (items ++ items2).size ≤ sizeLine + 1 := by
      rw [Array.size_append]
      exact hs2
    wp_walk using (wpAny_updateSeq hl rfl (hz := hc1) (_hz' := hz')), AutoSeq1.wpAny_loadPart' hl, AutoSeq1.wpAny_loadPart' hb
    exact ⟨_, rfl, h⟩
theorem mt_mu (m : Mu) : MtR X (muId m) (rMu X.K m) := by
  intro pins s σ H x vs v us Q I rx rv h
  obtain ⟨F, a, xs, ws, ds, y, ys, rfl, le, ha, rxs, ags, hm, q⟩ := h
  have lx := rxs.len
  unfold muD at hm
  split at hm
  · rename_i z
    split at hm
    · cases hm
      rename_i hz
      obtain ⟨w, t, rfl, r1, r2⟩ := (show ∃ w t, vs = w :: t ∧ Rp X.K F z w ∧ RpA X.K F [] t from ags)
      obtain rfl : t = [] := r2
      exact mt_append pins s σ H _ _ v us Q I rx rv ⟨a, ws, w, rfl, rfl, ha, by rw [← lx, ← SZ_eq]; exact hz, q _ _ rfl (rxs.app (RpA.cons r1 RpA.nil))⟩
    · cases hm
  · rename_i zs
    split at hm
    · cases hm
      rename_i hz
      obtain ⟨w, rfl, r1⟩ := VwL.one (show VwL X.K F H [.list zs] vs from ags)
      obtain ⟨b, bs, rfl, sb, rb⟩ := r1.lst le
      have lz := rb.len
      cases rx
      obtain ⟨u, rfl, ru⟩ := rv.one
      cases ru
      obtain ⟨z, its, n, r, hl, e⟩ := I.lstM ha
      obtain ⟨is2, r2, p2, z2⟩ := I.list sb
      obtain ⟨⟨c2, d2, da2, s2⟩, h2, hc2, n2, hd2⟩ := p2.isList
      simp only at hc2 hd2
      subst hc2 hd2
      have l2 := r2.length
      have hsz : its.toArray.size + is2.toArray.size ≤ sizeLine := by
        rw [List.size_toArray, List.size_toArray, ← SZ_eq]
        omega
      have hlong : ¬ (!its.toArray.isEmpty && Builtin.List.listTooLong (its.toArray.size + is2.toArray.size)) = true := by
        rw [notLongL hsz, Bool.and_false]
        exact Bool.false_ne_true
      refine call_meets PySem.F.slot_list_extend ⟨_, e, rfl⟩ PySem.F.entry_list_extend (PySem.F.args_list_extend_2 _ _)
        (extend_meets a its.toArray n b is2.toArray n2 d2 s2 hlong (by rw [List.size_toArray]; omega) (by omega)) ⟨e, h2, ?_⟩
      refine ⟨.non, _, I.lset (its' := its ++ is2) ha e (by simp) (r.append r2) ?_, rfl, q _ _ rfl (rxs.app rb)⟩
      rw [List.length_append, ← SZ_eq]
      omega
    · cases hm
  · split at hm
    · cases hm
      rename_i hy
      obtain rfl : vs = [] := ags
      obtain ⟨w, h1, h2⟩ := rxs.at hy
      rw [lx] at h1
      exact mt_pop pins s σ H _ _ v us Q I rx rv ⟨a, ws, w, rfl, rfl, ha, h1, q _ _ h2 rxs.dropLast⟩
    · cases hm
  · rename_i i z
    split at hm
    · cases hm
      rename_i hz
      obtain ⟨w, t, rfl, r1, r2⟩ := (show ∃ w t, vs = w :: t ∧ Rp X.K F (.int i) w ∧ RpA X.K F [z] t from ags)
      obtain ⟨w2, t2, rfl, r3, r4⟩ := (show ∃ w t', t = w :: t' ∧ Rp X.K F z w ∧ RpA X.K F [] t' from r2)
      obtain rfl : t2 = [] := r4
      obtain rfl : w = .int i := r1
      exact mt_insert pins s σ H _ _ v us Q I rx rv ⟨a, ws, i, w2, rfl, rfl, ha, by rw [← lx, ← SZ_eq]; exact hz.1, hz.2.1, by have := hz.2.2; omega, q _ _ rfl (((rxs.take i.toNat).app (RpA.cons r3 RpA.nil)).app (rxs.drop i.toNat))⟩
    · cases hm
  · cases hm
    obtain rfl : vs = [] := ags
    exact mt_reverse pins s σ H _ _ v us Q I rx rv ⟨a, ws, rfl, rfl, ha, q _ _ rfl rxs.rev⟩
  · cases hm
    obtain rfl : vs = [] := ags
    exact mt_clear pins s σ H _ _ v us Q I rx rv ⟨a, ws, rfl, rfl, ha, q _ _ rfl RpA.nil⟩
  · cases hm
end
end Bx

set_option Elab.async false
set_option linter.all false
set_option maxRecDepth 100000
set_option autoImplicit false
set_option maxHeartbeats 2000000
/-! Calls: what a def promises, what a call does to the caller's slots. -/
namespace Bx
open PySem PySem.Spec PyProof.Rows L2

/-- a def's promise, no exception leaves it, no repr under way -/
structure FnG (P : Program) (w : World) (K : PySem.W.Frag) (mg : Str → Option Value) (base : Heap) (k : Nat) (f : Addr) (fd : FuncData) (ps : List Str) (sp : List V → Hp → VK → Prop) : Prop where
  len : ∀ vs H Q, sp vs H Q → vs.length = ps.length
  run : ∀ (A : Around) (outer : List PySem.Env) (s : Shared) (H : Hp) (args : Args) (us : List Value) (vs : List V) (Q : VK), Room k A → A.guards = some [] → Env0 P w K mg base A outer s H → BindsTo s fd args (ps.zip us) → Vals vs us → sp vs H Q →
    codeAny (model P w) A (.call (.ref f) args) (CR CX0 outer P w H s Q E0) s
/-- what the evaluator's run of a def promises -/
def spF (C : Call) (K : PySem.W.Frag) (f : Nat) : List V → Hp → VK → Prop := fun vs H Q =>
  ∃ F ws w fs, Wd K F H ws (vs.map some) ∧ C f ws = some (w, fs) ∧ isV w = true ∧ ∀ v F' H', Pe K F H ws (vs.map some) fs w v F' H' → Q v H'

/-! ### lists by place -/
section
variable {K : PySem.W.Frag} {F H F1 H1 F2 H2 : Hp} {r r1 r2 : Env} {σ : SG}
theorem RpVL.at : ∀ {ws : List Sl} {vs : List V} {j : Nat} {w : Sl}, RpVL K F H r σ ws vs → ws[j]? = some w → ∃ v, vs[j]? = some v ∧ RpV K F H r σ w v
  | [], vs, j, w, q, e => by simp at e
  | x :: ws, vs, 0, w, q, e => by
    unfold RpVL at q
    obtain ⟨v, t, rfl, a, b⟩ := q
    simp at e
    subst e
    exact ⟨v, rfl, a⟩
  | x :: ws, vs, j + 1, w, q, e => by
    unfold RpVL at q
    obtain ⟨v, t, rfl, a, b⟩ := q
    obtain ⟨u, h1, h2⟩ := RpVL.at (j := j) b (by simpa using e)
    exact ⟨u, by simpa using h1, h2⟩
theorem ownL_at : ∀ {ws : List Sl} {vs : List V} {j : Nat} {d : PyData} {a : Addr}, ws[j]? = some (Sl.ow d) → vs[j]? = some (V.ref a) → a ∈ ownL ws vs
  | [], vs, j, d, a, e, e2 => by simp at e
  | x :: ws, [], j, d, a, e, e2 => by simp at e2
  | x :: ws, v :: vs, 0, d, a, e, e2 => by
    simp at e e2
    subst e e2
    exact List.mem_append_left _ (show a ∈ [a] from List.mem_singleton.mpr rfl)
  | x :: ws, v :: vs, j + 1, d, a, e, e2 => by
    simp only [ownL, List.mem_append]
    exact .inr (ownL_at (j := j) (d := d) (by simpa using e) (by simpa using e2))
theorem argsOf_at : ∀ {ws as : List Sl} {j : Nat} {x : Sl}, argsOf r ws = some as → as[j]? = some x → ∃ w, ws[j]? = some w ∧ argOf r w = some x
  | [], as, j, x, e, e2 => by
    cases e
    simp at e2
  | w :: ws, as, j, x, e, e2 => by
    unfold argsOf at e
    split at e
    · rename_i a l h1 h2
      cases e
      cases j with
      | zero =>
        simp at e2
        subst e2
        exact ⟨w, rfl, h1⟩
      | succ j =>
        obtain ⟨u, h3, h4⟩ := argsOf_at (j := j) h2 (by simpa using e2)
        exact ⟨u, by simpa using h3, h4⟩
    · cases e
theorem argsOf_len : ∀ {ws as : List Sl}, argsOf r ws = some as → as.length = ws.length
  | [], as, e => by cases e; rfl
  | w :: ws, as, e => by
    unfold argsOf at e
    split at e
    · rename_i a l h1 h2
      cases e
      rw [List.length_cons, List.length_cons, argsOf_len h2]
    · cases e
theorem mem_lents : ∀ {ws : List Sl} {j i : Nat}, ws[j]? = some (Sl.ln i) → i ∈ lents ws
  | [], j, i, e => by simp at e
  | w :: ws, 0, i, e => by
    simp at e
    subst e
    simp [lents]
  | w :: ws, j + 1, i, e => by
    have z := mem_lents (ws := ws) (j := j) (i := i) (by simpa using e)
    cases w <;> simp [lents, z]
theorem mem_ownLk : ∀ {ws : List Sl} {j i : Nat} {d : PyData}, ws[j]? = some (Sl.lk i) → r[i]? = some (Sl.ow d) → i ∈ ownLk r ws
  | [], j, i, d, e, e2 => by simp at e
  | w :: ws, 0, i, d, e, e2 => by
    simp at e
    subst e
    simp [ownLk, e2]
  | w :: ws, j + 1, i, d, e, e2 => by
    have z := mem_ownLk (ws := ws) (j := j) (i := i) (by simpa using e) e2
    cases w with
    | lk k =>
      simp only [ownLk]
      split <;> simp [z]
    | _ => simpa [ownLk] using z
theorem of_ownLk : ∀ {ws : List Sl} {i : Nat}, i ∈ ownLk r ws → ∃ d, r[i]? = some (Sl.ow d)
  | [], i, h => by simp [ownLk] at h
  | w :: ws, i, h => by
    cases w with
    | lk k =>
      simp only [ownLk] at h
      split at h
      · rename_i d e
        rcases List.mem_cons.mp h with rfl | h
        · exact ⟨d, e⟩
        · exact of_ownLk h
      · exact of_ownLk h
    | _ => exact of_ownLk (by simpa [ownLk] using h)
theorem nodup_of : ∀ {l : List Nat}, nodupB l = true → l.Nodup
  | [], _ => List.nodup_nil
  | i :: l, h => by
    simp only [nodupB, Bool.and_eq_true, Bool.not_eq_true', List.contains_eq_mem, decide_eq_false_iff_not] at h
    exact List.nodup_cons.mpr ⟨h.1, nodup_of h.2⟩
theorem lents_inj : ∀ {ws : List Sl} {j j' i : Nat}, (lents ws).Nodup → ws[j]? = some (Sl.ln i) → ws[j']? = some (Sl.ln i) → j = j'
  | [], j, j', i, _, e, _ => by simp at e
  | w :: ws, 0, 0, i, _, _, _ => rfl
  | w :: ws, 0, j' + 1, i, n, e, e2 => by
    simp at e
    subst e
    simp only [lents, List.nodup_cons] at n
    exact absurd (mem_lents (j := j') (by simpa using e2)) n.1
  | w :: ws, j + 1, 0, i, n, e, e2 => by
    simp at e2
    subst e2
    simp only [lents, List.nodup_cons] at n
    exact absurd (mem_lents (j := j) (by simpa using e)) n.1
  | w :: ws, j + 1, j' + 1, i, n, e, e2 => by
    have n' : (lents ws).Nodup := by
      cases w with
      | ln k => simp only [lents, List.nodup_cons] at n; exact n.2
      | _ => simpa [lents] using n
    rw [lents_inj (ws := ws) (j := j) (j' := j') (i := i) n' (by simpa using e) (by simpa using e2)]
theorem giveBack_out : ∀ {ws fs : List Sl} {r : Env} {i : Nat}, i ∉ lents ws → (giveBack r ws fs)[i]? = r[i]?
  | [], fs, r, i, h => by cases fs <;> rfl
  | w :: ws, [], r, i, h => by cases w <;> rfl
  | w :: ws, f :: fs, r, i, h => by
    cases w with
    | ln k =>
      simp only [lents, List.mem_cons, not_or] at h
      show (giveBack (r.set k f) ws fs)[i]? = r[i]?
      rw [giveBack_out h.2, List.getElem?_set_ne (fun e => h.1 e.symm)]
    | no => exact giveBack_out (ws := ws) (fs := fs) (r := r) (by simpa [lents] using h)
    | fr d => exact giveBack_out (ws := ws) (fs := fs) (r := r) (by simpa [lents] using h)
    | ow d => exact giveBack_out (ws := ws) (fs := fs) (r := r) (by simpa [lents] using h)
    | lk d => exact giveBack_out (ws := ws) (fs := fs) (r := r) (by simpa [lents] using h)
    | ex d => exact giveBack_out (ws := ws) (fs := fs) (r := r) (by simpa [lents] using h)
    | rz d => exact giveBack_out (ws := ws) (fs := fs) (r := r) (by simpa [lents] using h)
theorem giveBack_in : ∀ {ws fs : List Sl} {r : Env} {i j : Nat} {f : Sl}, (lents ws).Nodup → ws[j]? = some (Sl.ln i) → fs[j]? = some f → i < r.length → (giveBack r ws fs)[i]? = some f
  | [], fs, r, i, j, f, n, e, e2, h => by simp at e
  | w :: ws, [], r, i, j, f, n, e, e2, h => by simp at e2
  | w :: ws, g :: fs, r, i, 0, f, n, e, e2, h => by
    simp at e e2
    subst e e2
    simp only [lents, List.nodup_cons] at n
    show (giveBack (r.set i g) ws fs)[i]? = some g
    rw [giveBack_out n.1, List.getElem?_set_self h]
  | w :: ws, g :: fs, r, i, j + 1, f, n, e, e2, h => by
    have e' : ws[j]? = some (Sl.ln i) := by simpa using e
    have e2' : fs[j]? = some f := by simpa using e2
    cases w with
    | ln k =>
      simp only [lents, List.nodup_cons] at n
      exact giveBack_in (r := r.set k g) n.2 e' e2' (by simpa using h)
    | no => exact giveBack_in (ws := ws) (fs := fs) (r := r) (by simpa [lents] using n) e' e2' h
    | fr d => exact giveBack_in (ws := ws) (fs := fs) (r := r) (by simpa [lents] using n) e' e2' h
    | ow d => exact giveBack_in (ws := ws) (fs := fs) (r := r) (by simpa [lents] using n) e' e2' h
    | lk d => exact giveBack_in (ws := ws) (fs := fs) (r := r) (by simpa [lents] using n) e' e2' h
    | ex d => exact giveBack_in (ws := ws) (fs := fs) (r := r) (by simpa [lents] using n) e' e2' h
    | rz d => exact giveBack_in (ws := ws) (fs := fs) (r := r) (by simpa [lents] using n) e' e2' h
theorem giveBack_len : ∀ {ws fs : List Sl} {r : Env}, (giveBack r ws fs).length = r.length
  | [], fs, r => by cases fs <;> rfl
  | w :: ws, [], r => by cases w <;> rfl
  | w :: ws, f :: fs, r => by
    cases w with
    | ln k =>
      show (giveBack (r.set k f) ws fs).length = r.length
      rw [giveBack_len, List.length_set]
    | no => exact giveBack_len (ws := ws) (fs := fs) (r := r)
    | fr d => exact giveBack_len (ws := ws) (fs := fs) (r := r)
    | ow d => exact giveBack_len (ws := ws) (fs := fs) (r := r)
    | lk d => exact giveBack_len (ws := ws) (fs := fs) (r := r)
    | ex d => exact giveBack_len (ws := ws) (fs := fs) (r := r)
    | rz d => exact giveBack_len (ws := ws) (fs := fs) (r := r)
theorem of_lents : ∀ {ws : List Sl} {i : Nat}, i ∈ lents ws → ∃ j : Nat, ws[j]? = some (Sl.ln i)
  | [], i, h => by simp [lents] at h
  | w :: ws, i, h => by
    cases w with
    | ln k =>
      simp only [lents, List.mem_cons] at h
      rcases h with rfl | h
      · exact ⟨0, rfl⟩
      · obtain ⟨j, e⟩ := of_lents h
        exact ⟨j + 1, by simpa using e⟩
    | _ =>
      obtain ⟨j, e⟩ := of_lents (ws := ws) (i := i) (by simpa [lents] using h)
      exact ⟨j + 1, by simpa using e⟩
theorem freezeAt_len : ∀ {l : List Nat} {r : Env}, (freezeAt r l).length = r.length
  | [], r => rfl
  | i :: l, r => by
    unfold freezeAt
    split
    · rw [freezeAt_len, List.length_set]
    · exact freezeAt_len
theorem freezeAt_at : ∀ {l : List Nat} {r : Env} {i : Nat} {w : Sl}, (freezeAt r l)[i]? = some w → (r[i]? = some w ∧ ∀ d, w = .ow d → i ∉ l) ∨ (∃ d, r[i]? = some (Sl.ow d) ∧ w = .fr d)
  | [], r, i, w, h => .inl ⟨h, fun _ _ => by simp⟩
  | k :: l, r, i, w, h => by
    unfold freezeAt at h
    split at h
    · rename_i d e
      rcases freezeAt_at h with ⟨h1, h2⟩ | ⟨d', h1, h2⟩
      · by_cases hk : k = i
        · subst hk
          rw [List.getElem?_set_self (List.getElem?_eq_some_iff.mp e).1] at h1
          cases h1
          exact .inr ⟨d, e, rfl⟩
        · rw [List.getElem?_set_ne hk] at h1
          exact .inl ⟨h1, fun d' e' => by simp only [List.mem_cons, not_or]; exact ⟨fun q => hk q.symm, h2 d' e'⟩⟩
      · by_cases hk : k = i
        · subst hk
          rw [List.getElem?_set_self (List.getElem?_eq_some_iff.mp e).1] at h1
          cases h1
        · rw [List.getElem?_set_ne hk] at h1
          exact .inr ⟨d', h1, h2⟩
    · rename_i e
      rcases freezeAt_at h with ⟨h1, h2⟩ | ⟨d', h1, h2⟩
      · refine .inl ⟨h1, fun d' e' => ?_⟩
        simp only [List.mem_cons, not_or]
        refine ⟨fun q => ?_, h2 d' e'⟩
        subst q
        subst e'
        exact e _ h1
      · exact .inr ⟨d', h1, h2⟩
theorem flatW_ow {d : PyData} (h : flatW (.ow d) = true) : ∃ xs, d = .list xs ∧ flatAll xs = true := by
  cases d with
  | list xs => exact ⟨xs, rfl, h⟩
  | _ => cases h

/-- the call of a def, from its promise -/
theorem call_ok {C : Call} {f : Nat} {ws : List Sl} {vs : List V} {w : Sl} {Q : VK} (p : PeL K F H r σ r1 ws vs F1 H1) (e : callE C f ws r1 = some (w, r2)) (q : ∀ v F' H', Pe K F H r σ r2 w v F' H' → Q v H') : spF C K f vs H1 Q := by
  classical
  unfold callE at e
  split at e
  · cases e
  rename_i as has
  split at e
  case isFalse => cases e
  rename_i hc
  simp only [Bool.and_eq_true, List.all_eq_true, Bool.not_eq_true', List.contains_eq_mem, decide_eq_false_iff_not] at hc
  obtain ⟨hnd, hdis⟩ := hc
  have hnd := nodup_of hnd
  split at e
  · cases e
  rename_i w' fs hC
  split at e
  case isFalse => cases e
  rename_i hlen
  simp only [Bool.and_eq_true, decide_eq_true_eq] at hlen
  obtain ⟨hiv, hlen⟩ := hlen
  have lenA := argsOf_len has
  have lenV := p.rp.len
  -- what is borrowed
  let B : Addr → Prop := fun a => ∃ i ∈ ownLk r1 ws, σ[i]? = some (some (V.ref a))
  have Bown : ∀ {a : Addr}, B a → Own r1 σ a := fun ⟨i, hi, hs⟩ => by
    obtain ⟨d, hd⟩ := of_ownLk hi
    exact ⟨i, d, hd, hs⟩
  let T : Addr → Prop := fun a => a ∈ ownL ws vs
  have Tfacts : ∀ {a : Addr}, T a → F1 a = none ∧ (∃ o, H1 a = some o) ∧ ¬ Own r1 σ a ∧ (H a = none ∨ Own r σ a) := fun h => ownL_facts p.rp p.nw h
  let Fp : Hp := fun a => if T a ∨ B a then H1 a else F1 a
  have hin : ∀ {a : Addr}, T a ∨ B a → Fp a = H1 a := fun h => if_pos h
  have hout : ∀ {a : Addr}, ¬ (T a ∨ B a) → Fp a = F1 a := fun h => if_neg h
  have F1none : ∀ {a : Addr}, T a ∨ B a → F1 a = none := fun h => by
    rcases h with h | h
    · exact (Tfacts h).1
    · exact (p.wd.own (Bown h)).1
  have s1p : Same F1 Fp := fun a o z => by
    by_cases h : T a ∨ B a
    · rw [F1none h] at z; cases z
    · rw [hout h]; exact z
  have lep : Same Fp H1 := fun a o z => by
    by_cases h : T a ∨ B a
    · rw [hin h] at z; exact z
    · rw [hout h] at z; exact p.wd.le a o z
  -- an owned thing, frozen
  have frz_own : ∀ {d : PyData} {a : Addr}, OwnAt K F1 H1 d a → (T a ∨ B a) → Rp K Fp d (.ref a) := fun {d a} o h => by
    obtain ⟨_, o⟩ := o
    cases d with
    | list ys => obtain ⟨zs, z1, z2⟩ := o; exact ⟨a, zs, rfl, .inl (.inl ((hin h).trans z1)), RpA.mono s1p _ _ z2⟩
    | dict ys =>
      rcases o with ⟨zs, z1, z2⟩ | ⟨u, zs, z1, z3, z2⟩
      · exact ⟨a, rfl, .inl ⟨zs, .inl ((hin h).trans z1), RpK.mono s1p _ _ z2⟩⟩
      · exact ⟨a, rfl, .inr ⟨u, zs, (z3.to (.inl ((hin h).trans z1))).n, RpN.mono s1p _ _ z2⟩⟩
    | _ => exact o.elim
  have own_p : ∀ {d : PyData} {a : Addr}, OwnAt K F1 H1 d a → ¬ (T a ∨ B a) → OwnAt K Fp H1 d a := fun {d a} o h => by
    refine ⟨(hout h).trans o.1, ?_⟩
    obtain ⟨_, o⟩ := o
    cases d with
    | list ys => obtain ⟨zs, z1, z2⟩ := o; exact ⟨zs, z1, RpA.mono s1p _ _ z2⟩
    | dict ys =>
      rcases o with ⟨zs, z1, z2⟩ | ⟨u, zs, z1, z3, z2⟩
      · exact .inl ⟨zs, z1, RpK.mono s1p _ _ z2⟩
      · exact .inr ⟨u, zs, z1, z3, RpN.mono s1p _ _ z2⟩
    | _ => exact o.elim
  have notT : ∀ {a : Addr}, Own r1 σ a → ¬ T a := fun h t => (Tfacts t).2.2.1 h
  have notB : ∀ {i : Nat} {d : PyData} {a : Addr}, r1[i]? = some (Sl.ow d) → σ[i]? = some (some (V.ref a)) → i ∉ ownLk r1 ws → ¬ B a := fun {i d a} h1 h2 h3 ⟨k, hk, hs⟩ => by
    obtain ⟨d', hd⟩ := of_ownLk hk
    exact h3 (p.wd.inj i k d d' a h1 hd h2 hs ▸ hk)
  -- the callee's slots
  have argAt : ∀ {j : Nat} {x : Sl}, as[j]? = some x → ∃ u v, ws[j]? = some u ∧ argOf r1 u = some x ∧ vs[j]? = some v ∧ RpV K F1 H1 r1 σ u v := fun {j x} h => by
    obtain ⟨u, h1, h2⟩ := argsOf_at has h
    obtain ⟨v, h3, h4⟩ := p.rp.at h1
    exact ⟨u, v, h1, h2, h3, h4⟩
  have lentAt : ∀ {j : Nat} {d : PyData}, as[j]? = some (Sl.ow d) → ∃ i a, ws[j]? = some (Sl.ln i) ∧ r1[i]? = some (Sl.ow d) ∧ vs[j]? = some (V.ref a) ∧ σ[i]? = some (some (V.ref a)) ∧ OwnAt K F1 H1 d a ∧ i ∉ ownLk r1 ws := fun {j d} h => by
    obtain ⟨u, v, h1, h2, h3, h4⟩ := argAt h
    cases u with
    | no => cases h2
    | fr x => cases h2
    | ow x => cases h2
    | lk i =>
      simp only [argOf] at h2
      split at h2 <;> cases h2
    | ex c => cases h2
    | rz c => cases h2
    | ln i =>
      simp only [argOf] at h2
      split at h2
      · rename_i x hx
        cases h2
        obtain ⟨a, ha, o⟩ := p.wd.sl i _ hx
        have hv : σ[i]? = some (some v) := h4
        rw [hv] at ha
        cases ha
        refine ⟨i, a, h1, hx, h3, hv, o, fun hk => ?_⟩
        exact hdis i hk (mem_lents h1)
      · cases h2
  have wdC : Wd K Fp H1 as (vs.map some) := by
    refine ⟨lep, by rw [lenA, lenV, List.length_map], fun j x hx => ?_, fun j j' d d' a hj hj' hs hs' => ?_⟩
    · obtain ⟨u, v, h1, h2, h3, h4⟩ := argAt hx
      have hv : (vs.map some)[j]? = some (some v) := by rw [List.getElem?_map, h3]; rfl
      cases x with
      | no => trivial
      | fr d =>
        refine ⟨v, hv, ?_⟩
        cases u with
        | no => cases h2
        | fr y => cases h2; exact Rp.mono s1p _ _ h4
        | ow y =>
          cases h2
          obtain ⟨a, rfl, o, no⟩ := h4
          exact frz_own o (.inl (ownL_at h1 h3))
        | lk i =>
          have hs : σ[i]? = some (some v) := h4
          simp only [argOf] at h2
          split at h2
          · rename_i y hy
            cases h2
            obtain ⟨v', e1, z⟩ := p.wd.sl i _ hy
            rw [hs] at e1
            cases e1
            exact Rp.mono s1p _ _ z
          · rename_i y hy
            cases h2
            obtain ⟨a, e1, z⟩ := p.wd.sl i _ hy
            rw [hs] at e1
            cases e1
            exact frz_own z (.inr ⟨i, mem_ownLk h1 hy, hs⟩)
          · cases h2
        | ln i =>
          simp only [argOf] at h2
          split at h2 <;> cases h2
        | ex c => cases h2
        | rz c => cases h2
      | ex C =>
        cases u with
        | ex c =>
          cases h2
          obtain ⟨a, rfl, z⟩ := h4
          exact ⟨a, hv, s1p _ _ z⟩
        | no => cases h2
        | fr y => cases h2
        | ow y => cases h2
        | lk i =>
          simp only [argOf] at h2
          split at h2 <;> cases h2
        | ln i =>
          simp only [argOf] at h2
          split at h2 <;> cases h2
        | rz c => cases h2
      | rz C =>
        exfalso
        cases u <;> simp only [argOf] at h2 <;> first | cases h2 | (split at h2 <;> cases h2)
      | ow d =>
        obtain ⟨i, a, g1, g2, g3, g4, g5, g6⟩ := lentAt hx
        rw [h3] at g3
        cases g3
        refine ⟨a, hv, own_p g5 ?_⟩
        rintro (t | b)
        · exact notT ⟨i, d, g2, g4⟩ t
        · exact notB g2 g4 g6 b
      | lk i => 
        exfalso
        cases u <;> simp only [argOf] at h2 <;> first | cases h2 | (split at h2 <;> cases h2)
      | ln i =>
        exfalso
        cases u <;> simp only [argOf] at h2 <;> first | cases h2 | (split at h2 <;> cases h2)
    · obtain ⟨i, b, g1, g2, g3, g4, g5, g6⟩ := lentAt hj
      obtain ⟨i', b', k1, k2, k3, k4, k5, k6⟩ := lentAt hj'
      rw [List.getElem?_map, g3] at hs
      rw [List.getElem?_map, k3] at hs'
      cases hs
      cases hs'
      have ei := p.wd.inj i i' d d' a g2 k2 g4 k4
      subst ei
      exact lents_inj hnd g1 k1
  have ownC : ∀ {a : Addr}, Own as (vs.map some) a → ∃ j i d, as[j]? = some (Sl.ow d) ∧ ws[j]? = some (Sl.ln i) ∧ r1[i]? = some (Sl.ow d) ∧ σ[i]? = some (some (V.ref a)) ∧ i ∉ ownLk r1 ws := fun {a} ⟨j, d, h1, h2⟩ => by
    obtain ⟨i, b, g1, g2, g3, g4, g5, g6⟩ := lentAt h1
    rw [List.getElem?_map, g3] at h2
    cases h2
    exact ⟨j, i, d, h1, g1, g2, g4, g6⟩
  have ownC1 : ∀ {a : Addr}, Own as (vs.map some) a → Own r1 σ a := fun h => by
    obtain ⟨j, i, d, _, _, h1, h2, _⟩ := ownC h
    exact ⟨i, d, h1, h2⟩
  refine ⟨Fp, as, w', fs, wdC, hC, hiv, fun v F' H' pc => ?_⟩
  have frc := pc.fr
  have wdc := pc.wd
  -- from the arguments' state to the end, the borrowed things frozen too
  have fr1 : Fr (fun a => Own r1 σ a ∨ T a) F1 H1 F' H' := by
    refine ⟨s1p.trans frc.ff, fun a o z => ?_, fun a o z n => frc.hh a o z fun k => n (.inl (ownC1 k))⟩
    rcases frc.new a o z with z | ⟨z, k⟩
    · by_cases h : T a ∨ B a
      · exact .inr ⟨F1none h, .inl (h.elim .inr fun b => .inl (Bown b))⟩
      · rw [hout h] at z; exact .inl z
    · refine .inr ⟨s1p.free z, ?_⟩
      rcases k with k | k
      · exact .inl (.inl (ownC1 k))
      · exact .inr k
  have frT : ∀ {F3 : Hp}, Fr (fun a => Own r1 σ a ∨ T a) F1 H1 F3 H' → Fr (Own r σ) F H F3 H' := fun z => p.fr.trans z fun a k => by
    rcases k with k | k
    · exact .inl (p.sub a k)
    · exact ((Tfacts k).2.2.2).symm
  -- the callee's result leans on no address of the caller's other slots
  have lentBack : ∀ {i : Nat} {d : PyData}, r1[i]? = some (Sl.ow d) → i ∈ lents ws → ∃ j f a, ws[j]? = some (Sl.ln i) ∧ fs[j]? = some f ∧ vs[j]? = some (V.ref a) ∧ σ[i]? = some (some (V.ref a)) := fun {i d} hd hi => by
    obtain ⟨j, hj⟩ := of_lents hi
    have hjl : j < ws.length := (List.getElem?_eq_some_iff.mp hj).1
    obtain ⟨v, h1, h2⟩ := p.rp.at hj
    obtain ⟨a, ha, _⟩ := p.wd.sl i _ hd
    have hv : σ[i]? = some (some v) := h2
    rw [hv] at ha
    cases ha
    exact ⟨j, fs[j]'(by omega), a, hj, List.getElem?_eq_getElem (by omega), h1, hv⟩
  have lentR : ∀ {i : Nat}, i ∈ lents ws → i < r1.length := fun {i} hi => by
    obtain ⟨j, hj⟩ := of_lents hi
    have hjl : j < ws.length := (List.getElem?_eq_some_iff.mp hj).1
    have hja : j < as.length := by omega
    obtain ⟨u, v, h1, h2, h3, h4⟩ := argAt (List.getElem?_eq_getElem hja)
    rw [hj] at h1
    cases h1
    simp only [argOf] at h2
    split at h2
    · rename_i d hd
      exact (List.getElem?_eq_some_iff.mp hd).1
    · cases h2
  have resNew : ∀ {d : PyData} {a : Addr}, w' = .ow d → v = .ref a → (H a = none ∨ Own r σ a) ∧ ¬ Own fs (vs.map some) a := fun {d a} ew ev => by
    have h1 := pc.rp
    have h2 := pc.nw
    subst ew
    subst ev
    obtain ⟨b, eb, o, no⟩ := h1
    cases eb
    refine ⟨?_, no⟩
    rcases h2 a rfl with k | k
    · by_cases h : Own r σ a
      · exact .inr h
      · left
        cases z : H a with
        | none => rfl
        | some u => rw [p.fr.hh a u z h] at k; cases k
    · exact .inr (p.sub a (ownC1 k))
  split at e
  · -- flat: the borrowed things are given back
    rename_i hf
    cases e
    simp only [Bool.and_eq_true, List.all_eq_true] at hf
    obtain ⟨hfw, hff⟩ := hf
    let F3 : Hp := fun a => if B a then none else F' a
    have h3in : ∀ {a : Addr}, B a → F3 a = none := fun h => if_pos h
    have h3out : ∀ {a : Addr}, ¬ B a → F3 a = F' a := fun h => if_neg h
    have s3 : ∀ {a : Addr} {o : HO}, F3 a = some o → F' a = some o := fun {a o} z => by
      by_cases h : B a
      · rw [h3in h] at z; cases z
      · rw [h3out h] at z; exact z
    have s13 : Same F1 F3 := fun a o z => by
      have : ¬ B a := fun h => by rw [F1none (.inr h)] at z; cases z
      rw [h3out this]
      exact fr1.ff a o z
    have le3 : Same F3 H' := fun a o z => wdc.le a o (s3 z)
    have fr3 : Fr (fun a => Own r1 σ a ∨ T a) F1 H1 F3 H' := ⟨s13, fun a o z => fr1.new a o (s3 z), fr1.hh⟩
    -- tuples stay
    have tupStay : ∀ a xs, SqT K F' a xs → SqT K F3 a xs := fun a xs z => by
      have nb : ∀ {o : HO}, F' a = some o → (∀ ys, o ≠ .lst ys) → (∀ ys, o ≠ .dK ys) → (∀ φ, o ≠ .ext φ) → ¬ B a := fun {o} z hn hd hx hb => by
        obtain ⟨i, hi, hs⟩ := hb
        obtain ⟨d, hd2⟩ := of_ownLk hi
        obtain ⟨b, eb, o2⟩ := p.wd.sl i _ hd2
        rw [hs] at eb
        cases eb
        have k1 : Fp a = H1 a := hin (.inr ⟨i, hi, hs⟩)
        obtain ⟨_, o2⟩ := o2
        cases d with
        | list ys =>
          obtain ⟨zs, z1, _⟩ := o2
          rw [z1] at k1
          rw [frc.ff a _ k1] at z
          cases z
          exact hn _ rfl
        | dict ys =>
          rcases o2 with ⟨zs, z1, _⟩ | ⟨u, zs, z1, _⟩
          · rw [z1] at k1
            rw [frc.ff a _ k1] at z
            cases z
            exact hd _ rfl
          · rw [z1] at k1
            rw [frc.ff a _ k1] at z
            cases z
            exact hx _ rfl
        | _ => exact o2.elim
      rcases z with (z | ⟨o, z⟩) | z
      · exact .inl (.inl ((h3out (nb z (fun _ => nofun) (fun _ => nofun) (fun _ => nofun))).trans z))
      · exact .inl (.inr ⟨o, (h3out (nb z (fun _ => nofun) (fun _ => nofun) (fun _ => nofun))).trans z⟩)
      · exact .inr z
    have flatOwn : ∀ {d : PyData} {a : Addr}, flatW (.ow d) = true → OwnAt K F' H' d a → ¬ B a → OwnAt K F3 H' d a := fun {d a} hd o nb => by
      obtain ⟨xs, rfl, hx⟩ := flatW_ow hd
      obtain ⟨o1, vs', o2, o3⟩ := o
      exact ⟨(h3out nb).trans o1, vs', o2, RpA.flatTo tupStay _ _ hx o3⟩
    -- the slots behind
    have slot : ∀ {i : Nat} {x : Sl}, (giveBack r1 ws fs)[i]? = some x → (i ∉ lents ws ∧ r1[i]? = some x) ∨ (i ∈ lents ws ∧ ∃ j, ws[j]? = some (Sl.ln i) ∧ fs[j]? = some x) := fun {i x} h => by
      by_cases hi : i ∈ lents ws
      · obtain ⟨j, hj⟩ := of_lents hi
        have hjl : j < fs.length := by have := (List.getElem?_eq_some_iff.mp hj).1; omega
        rw [giveBack_in hnd hj (List.getElem?_eq_getElem hjl) (lentR hi)] at h
        cases h
        exact .inr ⟨hi, j, hj, List.getElem?_eq_getElem hjl⟩
      · rw [giveBack_out hi] at h
        exact .inl ⟨hi, h⟩
    have lentσ : ∀ {i j : Nat} {x : Sl}, ws[j]? = some (Sl.ln i) → fs[j]? = some x → ∃ u, vs[j]? = some u ∧ (vs.map some)[j]? = some (some u) ∧ σ[i]? = some (some u) := fun {i j x} h1 h2 => by
      obtain ⟨u, k1, k2⟩ := p.rp.at h1
      exact ⟨u, k1, by rw [List.getElem?_map, k1]; rfl, k2⟩
    have backOwn : ∀ {a : Addr}, Own (giveBack r1 ws fs) σ a → Own r1 σ a := fun {a} ⟨i, d, h1, h2⟩ => by
      rcases slot h1 with ⟨_, h⟩ | ⟨hi, j, hj, hfj⟩
      · exact ⟨i, d, h, h2⟩
      · obtain ⟨u, k1, k2, k3⟩ := lentσ hj hfj
        rw [h2] at k3
        cases k3
        exact ownC1 (pc.sub a ⟨j, d, hfj, k2⟩)
    have own_keep : ∀ {i : Nat} {d : PyData} {a : Addr}, i ∉ lents ws → r1[i]? = some (Sl.ow d) → σ[i]? = some (some (V.ref a)) → ¬ Own as (vs.map some) a := fun {i d a} hi h1 h2 k => by
      obtain ⟨j, i', d', _, g1, g2, g3, _⟩ := ownC k
      have := p.wd.inj i i' d d' a h1 g2 h2 g3
      subst this
      exact hi (mem_lents g1)
    have wd3 : Wd K F3 H' (giveBack r1 ws fs) σ := by
      refine ⟨le3, by rw [giveBack_len]; exact p.wd.len, fun i x hx => ?_, fun i i' d d' a h1 h2 h3 h4 => ?_⟩
      · rcases slot hx with ⟨hi, h⟩ | ⟨hi, j, hj, hfj⟩
        · have q0 := p.wd.sl i x h
          cases x with
          | no => trivial
          | fr d => obtain ⟨u, e1, z⟩ := q0; exact ⟨u, e1, Rp.mono s13 _ _ z⟩
          | ow d =>
            obtain ⟨a, e1, z⟩ := q0
            refine ⟨a, e1, ?_⟩
            obtain ⟨u, hu⟩ := z.some
            have hH : ∀ {o : HO}, H1 a = some o → H' a = some o := fun {o} k => frc.hh a o k (own_keep hi h e1)
            refine ⟨?_, ?_⟩
            · by_cases hb : B a
              · exact h3in hb
              · rw [h3out hb]
                cases k : F' a with
                | none => rfl
                | some o =>
                  rcases fr1.new a o k with k2 | ⟨_, k2⟩
                  · rw [z.1] at k2; cases k2
                  · rcases frc.new a o k with k3 | ⟨_, k3⟩
                    · rw [hout (by rintro (t | b); exact notT ⟨i, d, h, e1⟩ t; exact hb b), z.1] at k3; cases k3
                    · rcases k3 with k3 | k3
                      · exact (own_keep hi h e1 k3).elim
                      · rw [hu] at k3; cases k3
            · obtain ⟨_, z⟩ := z
              cases d with
              | list ys => obtain ⟨zs, z1, z2⟩ := z; exact ⟨zs, hH z1, RpA.mono s13 _ _ z2⟩
              | dict ys =>
                rcases z with ⟨zs, z1, z2⟩ | ⟨u, zs, z1, z3, z2⟩
                · exact .inl ⟨zs, hH z1, RpK.mono s13 _ _ z2⟩
                · exact .inr ⟨u, zs, hH z1, z3.to (.inl (hH z1)), RpN.mono s13 _ _ z2⟩
              | _ => exact z.elim
          | ex C => obtain ⟨a, e1, z⟩ := q0; exact ⟨a, e1, s13 _ _ z⟩
          | rz C => exact q0.elim
          | lk k => exact q0.elim
          | ln k => exact q0.elim
        · obtain ⟨u, k1, k2, k3⟩ := lentσ hj hfj
          have q0 := wdc.sl j x hfj
          have hfl := hff x (List.mem_of_getElem? hfj)
          cases x with
          | no => trivial
          | fr d =>
            obtain ⟨u', e1, z⟩ := q0
            rw [k2] at e1
            cases e1
            exact ⟨u, k3, Rp.flatTo tupStay _ _ hfl z⟩
          | ow d =>
            obtain ⟨a, e1, z⟩ := q0
            rw [k2] at e1
            cases e1
            refine ⟨a, k3, flatOwn hfl z fun hb => ?_⟩
            obtain ⟨j2, i2, d2, _, g1, g2, g3, g4⟩ := ownC (pc.sub a ⟨j, d, hfj, k2⟩)
            exact notB g2 g3 g4 hb
          | ex C => cases hfl
          | rz C => exact q0.elim
          | lk k => exact q0.elim
          | ln k => exact q0.elim
      · rcases slot h1 with ⟨hi, g1⟩ | ⟨hi, j, hj, hfj⟩
        · rcases slot h2 with ⟨hi', g2⟩ | ⟨hi', j', hj', hfj'⟩
          · exact p.wd.inj i i' d d' a g1 g2 h3 h4
          · exfalso
            obtain ⟨u, k1, k2, k3⟩ := lentσ hj' hfj'
            rw [h4] at k3
            cases k3
            exact own_keep hi g1 h3 (pc.sub a ⟨j', d', hfj', k2⟩)
        · rcases slot h2 with ⟨hi', g2⟩ | ⟨hi', j', hj', hfj'⟩
          · exfalso
            obtain ⟨u, k1, k2, k3⟩ := lentσ hj hfj
            rw [h3] at k3
            cases k3
            exact own_keep hi' g2 h4 (pc.sub a ⟨j, d, hfj, k2⟩)
          · obtain ⟨u, k1, k2, k3⟩ := lentσ hj hfj
            obtain ⟨u', k1', k2', k3'⟩ := lentσ hj' hfj'
            rw [h3] at k3
            rw [h4] at k3'
            cases k3
            cases k3'
            have := wdc.inj j j' d d' a hfj hfj' k2 k2'
            subst this
            rw [hj] at hj'
            cases hj'
            rfl
    refine q v F3 H' ⟨frT fr3, wd3, fun a k => p.sub a (backOwn k), ?_, ?_⟩
    · have h1 := pc.rp
      cases w with
      | no => exact h1.elim
      | fr d => exact Rp.flatTo tupStay _ _ hfw h1
      | ow d =>
        obtain ⟨a, ea, o, no⟩ := h1
        have nOwn : ¬ Own (giveBack r1 ws fs) σ a := fun ⟨i, d2, g1, g2⟩ => by
          rcases slot g1 with ⟨hi, h⟩ | ⟨hi, j, hj, hfj⟩
          · rcases pc.nw a ea with k | k
            · obtain ⟨_, u, hu⟩ := p.wd.own ⟨i, d2, h, g2⟩
              rw [hu] at k; cases k
            · exact own_keep hi h g2 k
          · obtain ⟨u, k1, k2, k3⟩ := lentσ hj hfj
            rw [g2] at k3
            cases k3
            exact no ⟨j, d2, hfj, k2⟩
        refine ⟨a, ea, flatOwn hfw o fun hb => ?_, nOwn⟩
        rcases pc.nw a ea with k | k
        · obtain ⟨_, u, hu⟩ := p.wd.own (Bown hb)
          rw [hu] at k; cases k
        · obtain ⟨j2, i2, d2, _, g1, g2, g3, g4⟩ := ownC k
          exact notB g2 g3 g4 hb
      | lk i => cases hfw
      | ln i => cases hfw
      | ex C => cases hfw
      | rz C => cases hfw
    · cases w with
      | ow d => exact fun a ea => (resNew rfl ea).1
      | _ => trivial
  · -- the borrowed things stay frozen
    cases e
    have slot : ∀ {i : Nat} {x : Sl}, (giveBack (freezeAt r1 (ownLk r1 ws)) ws fs)[i]? = some x → (i ∉ lents ws ∧ (freezeAt r1 (ownLk r1 ws))[i]? = some x) ∨ (i ∈ lents ws ∧ ∃ j, ws[j]? = some (Sl.ln i) ∧ fs[j]? = some x) := fun {i x} h => by
      by_cases hi : i ∈ lents ws
      · obtain ⟨j, hj⟩ := of_lents hi
        have hjl : j < fs.length := by have := (List.getElem?_eq_some_iff.mp hj).1; omega
        rw [giveBack_in hnd hj (List.getElem?_eq_getElem hjl) (by rw [freezeAt_len]; exact lentR hi)] at h
        cases h
        exact .inr ⟨hi, j, hj, List.getElem?_eq_getElem hjl⟩
      · rw [giveBack_out hi] at h
        exact .inl ⟨hi, h⟩
    have lentσ : ∀ {i j : Nat} {x : Sl}, ws[j]? = some (Sl.ln i) → fs[j]? = some x → ∃ u, vs[j]? = some u ∧ (vs.map some)[j]? = some (some u) ∧ σ[i]? = some (some u) := fun {i j x} h1 h2 => by
      obtain ⟨u, k1, k2⟩ := p.rp.at h1
      exact ⟨u, k1, by rw [List.getElem?_map, k1]; rfl, k2⟩
    have own_keep : ∀ {i : Nat} {d : PyData} {a : Addr}, i ∉ lents ws → r1[i]? = some (Sl.ow d) → σ[i]? = some (some (V.ref a)) → ¬ Own as (vs.map some) a := fun {i d a} hi h1 h2 k => by
      obtain ⟨j, i', d', _, g1, g2, g3, _⟩ := ownC k
      have := p.wd.inj i i' d d' a h1 g2 h2 g3
      subst this
      exact hi (mem_lents g1)
    have frzOwn : ∀ {i : Nat} {d : PyData}, (freezeAt r1 (ownLk r1 ws))[i]? = some (Sl.ow d) → r1[i]? = some (Sl.ow d) ∧ i ∉ ownLk r1 ws := fun {i d} h => by
      rcases freezeAt_at h with ⟨h1, h2⟩ | ⟨d', h1, h2⟩
      · exact ⟨h1, h2 d rfl⟩
      · cases h2
    have backOwn : ∀ {a : Addr}, Own (giveBack (freezeAt r1 (ownLk r1 ws)) ws fs) σ a → Own r1 σ a := fun {a} ⟨i, d, h1, h2⟩ => by
      rcases slot h1 with ⟨_, h⟩ | ⟨hi, j, hj, hfj⟩
      · exact ⟨i, d, (frzOwn h).1, h2⟩
      · obtain ⟨u, k1, k2, k3⟩ := lentσ hj hfj
        rw [h2] at k3
        cases k3
        exact ownC1 (pc.sub a ⟨j, d, hfj, k2⟩)
    have s1F : Same F1 F' := fr1.ff
    have wd3 : Wd K F' H' (giveBack (freezeAt r1 (ownLk r1 ws)) ws fs) σ := by
      refine ⟨wdc.le, by rw [giveBack_len, freezeAt_len]; exact p.wd.len, fun i x hx => ?_, fun i i' d d' a h1 h2 h3 h4 => ?_⟩
      · rcases slot hx with ⟨hi, h⟩ | ⟨hi, j, hj, hfj⟩
        · rcases freezeAt_at h with ⟨h0, hno⟩ | ⟨d, h0, rfl⟩
          · have q0 := p.wd.sl i x h0
            cases x with
            | no => trivial
            | fr d => obtain ⟨u, e1, z⟩ := q0; exact ⟨u, e1, Rp.mono s1F _ _ z⟩
            | ow d =>
              obtain ⟨a, e1, z⟩ := q0
              refine ⟨a, e1, (own_p z ?_).go frc (own_keep hi h0 e1)⟩
              rintro (t | b)
              · exact notT ⟨i, d, h0, e1⟩ t
              · exact notB h0 e1 (hno d rfl) b
            | ex C => obtain ⟨a, e1, z⟩ := q0; exact ⟨a, e1, s1F _ _ z⟩
            | rz C => exact q0.elim
            | lk k => exact q0.elim
            | ln k => exact q0.elim
          · obtain ⟨a, e1, z⟩ := p.wd.sl i _ h0
            refine ⟨.ref a, e1, ?_⟩
            by_cases hb : B a
            · exact Rp.mono frc.ff _ _ (frz_own z (.inr hb))
            · exfalso
              have : i ∈ ownLk r1 ws := by
                cases hm : decide (i ∈ ownLk r1 ws) with
                | true => exact of_decide_eq_true hm
                | false =>
                  exfalso
                  have hm' := of_decide_eq_false hm
                  have : (freezeAt r1 (ownLk r1 ws))[i]? = some (Sl.ow d) := by
                    have go : ∀ (l : List Nat) (r : Env), i ∉ l → (freezeAt r l)[i]? = r[i]? := by
                      intro l
                      induction l with
                      | nil => intro r _; rfl
                      | cons k l ih =>
                        intro r hk
                        simp only [List.mem_cons, not_or] at hk
                        unfold freezeAt
                        split
                        · rw [ih _ hk.2, List.getElem?_set_ne (fun q => hk.1 q.symm)]
                        · exact ih _ hk.2
                    rw [go _ _ hm']
                    exact h0
                  rw [this] at h
                  cases h
              exact hb ⟨i, this, e1⟩
        · obtain ⟨u, k1, k2, k3⟩ := lentσ hj hfj
          have q0 := wdc.sl j x hfj
          cases x with
          | no => trivial
          | fr d =>
            obtain ⟨u', e1, z⟩ := q0
            rw [k2] at e1
            cases e1
            exact ⟨u, k3, z⟩
          | ow d =>
            obtain ⟨a, e1, z⟩ := q0
            rw [k2] at e1
            cases e1
            exact ⟨a, k3, z⟩
          | ex C =>
            obtain ⟨a, e1, z⟩ := q0
            rw [k2] at e1
            cases e1
            exact ⟨a, k3, z⟩
          | rz C => exact q0.elim
          | lk k => exact q0.elim
          | ln k => exact q0.elim
      · rcases slot h1 with ⟨hi, g1⟩ | ⟨hi, j, hj, hfj⟩
        · rcases slot h2 with ⟨hi', g2⟩ | ⟨hi', j', hj', hfj'⟩
          · exact p.wd.inj i i' d d' a (frzOwn g1).1 (frzOwn g2).1 h3 h4
          · exfalso
            obtain ⟨u, k1, k2, k3⟩ := lentσ hj' hfj'
            rw [h4] at k3
            cases k3
            exact own_keep hi (frzOwn g1).1 h3 (pc.sub a ⟨j', d', hfj', k2⟩)
        · rcases slot h2 with ⟨hi', g2⟩ | ⟨hi', j', hj', hfj'⟩
          · exfalso
            obtain ⟨u, k1, k2, k3⟩ := lentσ hj hfj
            rw [h3] at k3
            cases k3
            exact own_keep hi' (frzOwn g2).1 h4 (pc.sub a ⟨j, d, hfj, k2⟩)
          · obtain ⟨u, k1, k2, k3⟩ := lentσ hj hfj
            obtain ⟨u', k1', k2', k3'⟩ := lentσ hj' hfj'
            rw [h3] at k3
            rw [h4] at k3'
            cases k3
            cases k3'
            have := wdc.inj j j' d d' a hfj hfj' k2 k2'
            subst this
            rw [hj] at hj'
            cases hj'
            rfl
    refine q v F' H' ⟨frT fr1, wd3, fun a k => p.sub a (backOwn k), ?_, ?_⟩
    · have h1 := pc.rp
      cases w with
      | no => exact h1.elim
      | fr d => exact h1
      | ow d =>
        obtain ⟨a, ea, o, no⟩ := h1
        refine ⟨a, ea, o, fun ⟨i, d2, g1, g2⟩ => ?_⟩
        rcases slot g1 with ⟨hi, h⟩ | ⟨hi, j, hj, hfj⟩
        · rcases pc.nw a ea with k | k
          · obtain ⟨_, u, hu⟩ := p.wd.own ⟨i, d2, (frzOwn h).1, g2⟩
            rw [hu] at k; cases k
          · exact own_keep hi (frzOwn h).1 g2 k
        · obtain ⟨u, k1, k2, k3⟩ := lentσ hj hfj
          rw [g2] at k3
          cases k3
          exact no ⟨j, d2, hfj, k2⟩
      | lk i => cases hiv
      | ln i => cases hiv
      | ex C => cases hiv
      | rz C => cases hiv
    · cases w with
      | ow d => exact fun a ea => (resNew rfl ea).1
      | _ => trivial
/-! ### a call that raises -/
/-- what the evaluator's run of a def promises, where it raises -/
def spX (C : Call) (K : PySem.W.Frag) (f : Nat) : List V → Hp → XK → Prop := fun vs H E =>
  ∃ F ws c fs, Wd K F H ws (vs.map some) ∧ C f ws = some (.rz c, fs) ∧ ∀ F' H', Fr (Own ws (vs.map some)) F H F' H' → Same F' H' → E (.ref (He.ga K c)) none H'
/-- a def's promise, where an exception leaves it -/
structure FnX (P : Program) (w : World) (K : PySem.W.Frag) (mg : Str → Option Value) (base : Heap) (k : Nat) (f : Addr) (fd : FuncData) (ps : List Str) (sp : List V → Hp → XK → Prop) : Prop where
  len : ∀ vs H E, sp vs H E → vs.length = ps.length
  run : ∀ (A : Around) (outer : List PySem.Env) (s : Shared) (H : Hp) (args : Args) (us : List Value) (vs : List V) (E : XK), Room k A → A.guards = some [] → Env0 P w K mg base A outer s H → BindsTo s fd args (ps.zip us) → Vals vs us → sp vs H E →
    codeAny (model P w) A (.call (.ref f) args) (CR (L2.CX P w) outer P w H s (fun _ _ => False) E) s
/-- the same call, as if it told nothing -/
def asNone (C : Call) (c : Str) : Call := fun f as => match C f as with
  | some (.rz d, _) => if d = c then some (.fr .none, as.map fun _ => Sl.no) else none
  | _ => none
theorem argsOf_len2 : ∀ {ws as : List Sl}, argsOf r ws = some as → as.length = ws.length
  | [], as, e => by cases e; rfl
  | w :: ws, as, e => by
    unfold argsOf at e
    split at e
    · rename_i a l h1 h2
      cases e
      rw [List.length_cons, List.length_cons, argsOf_len2 h2]
    · cases e
theorem xcall_ok {C : Call} {f : Nat} {ws : List Sl} {vs : List V} {c : Str} {E : XK} (p : PeL K F H r σ r1 ws vs F1 H1) (e : xcall C f ws r1 = some (c, r2))
    (q : ∀ F' H', Fr (Own r σ) F H F' H' → Wd K F' H' r2 σ → (∀ a, Own r2 σ a → Own r σ a) → E (.ref (He.ga K c)) none H') : spX C K f vs H1 E := by
  unfold xcall at e
  split at e
  · cases e
  rename_i as has
  split at e
  case isFalse => cases e
  rename_i hc
  split at e
  case h_2 => cases e
  rename_i c' fs hC
  simp only [Option.some.injEq, Prod.mk.injEq] at e
  obtain ⟨rfl, rfl⟩ := e
  have hN : asNone C c' f as = some (.fr .none, as.map fun _ => Sl.no) := by
    unfold asNone
    rw [hC]
    simp
  have lN : (as.map fun _ => Sl.no).length = ws.length := by rw [List.length_map, argsOf_len2 has]
  have all : ∀ l : List Sl, (l.map fun _ => Sl.no).all flatW = true := fun l => by
    induction l with
    | nil => rfl
    | cons a l ih => rw [List.map_cons, List.all_cons, ih]; rfl
  have eN : (as.map fun _ => Sl.no) = ws.map fun _ => Sl.no := by
    have := argsOf_len2 has
    rw [List.map_const', List.map_const', this]
  have hE : callE (asNone C c') f ws r1 = some (.fr .none, giveBack r1 ws (ws.map fun _ => Sl.no)) := by
    unfold callE
    rw [has]
    simp only
    rw [if_pos hc, hN]
    simp only
    rw [if_pos (by simp [isV, lN]), if_pos (by simp only [Bool.and_eq_true]; exact ⟨rfl, all as⟩), eN]
  have sp := call_ok (Q := fun _ H' => E (.ref (He.ga K c')) none H') p hE fun v F' H' z => q F' H' z.fr z.wd z.sub
  obtain ⟨Fp, us, w, gs, wd, h1, _, q2⟩ := sp
  unfold asNone at h1
  split at h1
  · rename_i d ds hd
    split at h1
    · rename_i ed
      subst ed
      simp only [Option.some.injEq, Prod.mk.injEq] at h1
      obtain ⟨rfl, rfl⟩ := h1
      refine ⟨Fp, us, d, ds, wd, hd, fun F' H' fr le => q2 .non F' H' ⟨fr, ?_, ?_, rfl, trivial⟩⟩
      · have no : ∀ (i : Nat) (x : Sl), (us.map fun _ => Sl.no)[i]? = some x → x = .no := fun i x h => by
          rw [List.getElem?_map] at h
          cases k : us[i]? with
          | none => rw [k] at h; cases h
          | some y => rw [k] at h; exact (Option.some.inj h).symm
        refine ⟨le, by rw [List.length_map]; exact wd.len, fun i x h => ?_, fun i j d1 d2 a h => ?_⟩
        · rw [no i x h]
          trivial
        · have := no i _ h
          cases this
      · rintro a ⟨i, d1, h, _⟩
        rw [List.getElem?_map] at h
        cases k : us[i]? with
        | none => rw [k] at h; cases h
        | some y => rw [k] at h; cases h
    · cases h1
  · cases h1
end
end Bx

set_option Elab.async false
set_option linter.all false
set_option maxRecDepth 100000
set_option autoImplicit false
set_option maxHeartbeats 2000000
/-! The text against the small language; the context; readings weakened. -/
namespace Bx
open PySem PySem.Spec PyProof.Rows L2

/-- what the globals are: defs, constants, built-in names that no def hides -/
structure Gm where
  funs : List (Str × Nat)
  cons : List (Str × Cn)
  blts : List Str
  excs : List Str
  subs : List (Str × Str)
  tcls : List Str
  tsub : List (Str × Str)

def btN : Bt → Str
  | .len => "len"
  | .sum1 => "sum"
  | .min1 => "min"
  | .max1 => "max"
  | .min2 => "min"
  | .max2 => "max"
  | .abs => "abs"
  | .int1 => "int"
  | .str1 => "str"
  | .sorted => "sorted"
  | .repr => "repr"
  | .list1 => "list"
  | .tuple1 => "tuple"
  | .all => "all"
  | .any => "any"
  | .dct1 => "dict"
def tyS : Ty → Str
  | .int => "int"
  | .bool => "bool"
  | .str => "str"
  | .list => "list"
  | .tuple => "tuple"
  | .dict => "dict"
def muN : Mu → Str
  | .append => "append"
  | .extend => "extend"
  | .pop => "pop"
  | .insert => "insert"
  | .reverse => "reverse"
  | .clear => "clear"
def nmOk (x : Str) : Bool := !(x == ("__debug__" : Str)) && !(x == ("__classdict__" : Str))
def visB (sc : Scope) (x : Str) : Bool := match sc.names.lookup x with
  | some .local => true
  | some .cell => true
  | some .free => true
  | _ => false
def storB (sc : Scope) (x : Str) : Bool := match sc.names.lookup x with
  | some .local => true
  | some .cell => true
  | _ => false
def gloB (sc : Scope) (x : Str) : Bool := match sc.names.lookup x with
  | some .globalImplicit => true
  | _ => false
def notStar : Expr → Bool
  | .Starred _ _ => false
  | _ => true
def noStars : List Expr → Bool
  | [] => true
  | e :: es => notStar e && noStars es
def notSet : Expr → Bool
  | .Set _ _ _ => false
  | _ => true
def meN : Me → Str
  | .lidx => "index"
  | .lcnt => "count"
/-- no call without arguments (super() among them) -/
def notBare : Expr → Bool
  | .Call _ [] [] _ => false
  | _ => true
def isRev : Expr → Bool
  | .Slice none none (some (.UnaryOp .USub (.Constant (.int i) _ _) _)) _ => decide (i = 1)
  | _ => false
def isSlice : Expr → Bool
  | .Slice _ _ _ _ => true
  | _ => false
/-- an expression whose test is its value's truth -/
def plainT : Expr → Bool
  | .BoolOp _ _ _ => false
  | .UnaryOp .Not _ _ => false
  | .IfExp _ _ _ _ => false
  | .Compare _ _ _ _ => false
  | _ => true
def isTupE : Expr → Bool
  | .Tuple _ _ _ => true
  | _ => false
def mV (N : List Str) (sc : Scope) (i : Nat) (x : Str) : Bool := decide (N[i]? = some x) && visB sc x && nmOk x
def mK (G : Gm) (sc : Scope) (c : Cn) : Expr → Bool
  | .Constant .none _ _ => decide (c = .none)
  | .Constant (.bool b) _ _ => decide (c = .bool b)
  | .Constant (.int i) _ _ => decide (c = .int i)
  | .Constant (.str x) _ _ => decide (c = .str x)
  | .Name x _ => decide (G.cons.lookup x = some c) && gloB sc x && nmOk x
  | _ => false
def mTy (G : Gm) (sc : Scope) (t : Ty) : Expr → Bool
  | .Name x _ => decide (x = tyS t) && gloB sc x && G.blts.contains x
  | _ => false
/-- a display's keys -/
def mKs (G : Gm) (sc : Scope) : List Cn → List (Option Expr) → Bool
  | [], [] => true
  | c :: cs, some e :: es => mK G sc c e && mKs G sc cs es
  | _, _ => false
def mTys (G : Gm) (sc : Scope) : List Ty → List Expr → Bool
  | [], [] => true
  | t :: ts, e :: es => mTy G sc t e && mTys G sc ts es
  | _, _ => false
/-- targets: slots, names that may be stored to -/
def mT (N : List Str) (own : Scope) : Tg → Sum Expr (List Expr) → Bool
  | .nm i, .inl (.Name x _) => decide (N[i]? = some x) && storB own x
  | .tup a b, .inl (.Tuple (e :: es) _ _) => notStar e && mT N own a (.inl e) && mT N own b (.inr es)
  | .tup a b, .inr (e :: es) => notStar e && mT N own a (.inl e) && mT N own b (.inr es)
  | .tupn, .inr [] => true
  | _, _ => false
/-- a clause's tests: none, one -/
def isYes : Ex → Bool
  | .k (.bool true) => true
  | _ => false
def ownN (N : List Str) (own : List Nat) : List (Str × Nat) := own.map fun i => ((N[i]?).getD "", i)
@[simp] def notBO : Expr → Bool
  | .Call _ _ _ _ => true
  | _ => false
/-- names of own classes -/
def clsNs (G : Gm) (sc : Scope) : List Expr → Option (List Str)
  | [] => some []
  | .Name y _ :: es => if (G.tcls.contains y && gloB sc y && nmOk y) = true then (match clsNs G sc es with | some ys => some (y :: ys) | none => none) else none
  | _ :: _ => none
def mIx (N : List Str) (G : Gm) (sc : Scope) (i : Nat) (al ts : List Str) : Expr → Bool
  | .Call (.Name x _) [.Name z _, t] [] _ => decide (x = ("isinstance" : Str)) && gloB sc x && G.blts.contains x && mV N sc i z && (al.all fun c => G.excs.contains c) && (match t with
    | .Name y _ => if y = ("ValueError" : Str) then gloB sc y && G.blts.contains y && (al.all fun c => ts.contains c) else G.tcls.contains y && gloB sc y && nmOk y && (al.all fun c => ts.contains c == G.tsub.contains (c, y))
    | .Tuple es _ _ => (match clsNs G sc es with
      | some ys => decide (ys.length < 1000) && (al.all fun c => ts.contains c == ys.any fun y => G.tsub.contains (c, y))
      | none => false)
    | _ => false)
  | _ => false
mutual
def mE (N : List Str) (G : Gm) : Scope → Ex → Expr → Bool
  | sc, .k c, ae => mK G sc c ae
  | sc, .v i, .Name x _ => mV N sc i x
  | sc, .mv i, .Name x _ => mV N sc i x
  | sc, .bw i, .Name x _ => mV N sc i x
  | sc, .ln i, .Name x _ => mV N sc i x
  | sc, .tup es, .Tuple as _ _ => mEs N G sc es as
  | sc, .lst es, .List as _ => mEs N G sc es as
  | sc, .dct ks es, .Dict keys values _ => mKs G sc ks keys && decide (keys.length = values.length) && decide (keys.length ≤ 15) && mEs N G sc es values
  | sc, .dn2 a b c d, .Dict [some x, some y] [u, v] _ => mE N G sc a x && mE N G sc b y && mK G sc c u && mK G sc d v
  | sc, .dk k e, .Dict [some x] [y] _ => mE N G sc k x && mE N G sc e y
  | sc, .bin o a b, .BinOp x op y _ => decide (op = bopA o) && mE N G sc a x && mE N G sc b y
  | sc, .neg a, .UnaryOp .USub x _ => mE N G sc a x
  | sc, .nt a, .UnaryOp .Not x _ => mE N G sc a x
  | sc, .xv i, .Name x _ => mV N sc i x
  | sc, .isx i al ts, ae => mIx N G sc i al ts ae
  | sc, .xnn i, .Compare (.Name x _) [op] [y] _ => decide (op = .IsNot) && notSet y && mV N sc i x && mK G sc .none y
  | sc, .cmp o a b, .Compare x [op] [y] _ => decide (op = copA o) && notSet y && mE N G sc a x && mE N G sc b y
  | sc, .ch o p a b c, .Compare x [op, op'] [y, z] _ => decide (op = copA o) && decide (op' = copA p) && notSet z && mE N G sc a x && mE N G sc b y && mE N G sc c z
  | sc, .an a b, .BoolOp .And (x :: y :: ys) pos => mE N G sc a x && (match ys with | [] => mE N G sc b y | _ => mE N G sc b (.BoolOp .And (y :: ys) pos))
  | sc, .orr a b, .BoolOp .Or (x :: y :: ys) pos => mE N G sc a x && (match ys with | [] => mE N G sc b y | _ => mE N G sc b (.BoolOp .Or (y :: ys) pos))
  | sc, .ix a b, .Subscript x y _ => !isSlice y && mE N G sc a x && mE N G sc b y
  | sc, .sl a lo hi, .Subscript x (.Slice l h none _) _ => mE N G sc a x && (match l with | none => isNoneE lo | some l => !isNoneE lo && mE N G sc lo l) && (match h with | none => isNoneE hi | some h => !isNoneE hi && mE N G sc hi h)
  | sc, .rv a, .Subscript x y _ => isRev y && mE N G sc a x
  | sc, .rep a b, .BinOp x op y _ => decide (op = .Mult) && mE N G sc a x && mE N G sc b y
  | sc, .me m a es, .Call (.Attribute o name apos) as [] pos => notBare o && decide (name = meN m) && (apos.endLine == pos.line) && noStars as && decide (as.length < 29) && !as.isEmpty && mE N G sc a o && mEs N G sc es as
  | sc, .call f es, .Call (.Name x _) as [] _ => decide (G.funs.lookup x = some f) && gloB sc x && nmOk x && noStars as && mEs N G sc es as
  | sc, .bt b es, .Call (.Name x _) as [] _ => decide (x = btN b) && gloB sc x && G.blts.contains x && noStars as && !as.isEmpty && mEs N G sc es as
  | sc, .isi a ts, .Call (.Name x _) [y, t] [] _ => decide (x = ("isinstance" : Str)) && gloB sc x && G.blts.contains x && notStar y && mE N G sc a y && (match t with | .Tuple es _ _ => noStars es && mTys G sc ts es && decide (ts.length < 100) | .Name z p => (match ts with | [u] => mTy G sc u (.Name z p) | _ => false) | _ => false)
  | sc, .mu m i es, .Call (.Attribute (.Name x _) name apos) as [] pos => mV N sc i x && decide (name = muN m) && (apos.endLine == pos.line) && noStars as && decide (as.length < 29) && mEs N G sc es as
  | sc, .lc t it c e own, .ListComp elt [⟨tg, iter, ifs, ia⟩] scope _ =>
    decide (ia = 0) && blkC N sc scope (ownN N own) && t.st.all (fun i => own.contains i) && mT N scope t (.inl tg) && notSet iter && mI N G sc it tg iter &&
      (match ifs with | [] => isYes c | [x] => mE N G (relS scope sc) c x | _ => false) && mE N G (relS scope sc) e elt
  | sc, .dz es, .Call (.Name x _) [.Call (.Name y _) as [] _] [] _ => decide (x = ("dict" : Str)) && decide (y = ("zip" : Str)) && gloB sc x && gloB sc y && G.blts.contains x && G.blts.contains y && noStars as && decide (as.length = 2) && mEs N G sc es as
  | sc, .fzn a, ae => notBO ae && mE N G sc a ae
  | sc, .lz es, .Call (.Name x _) [.Call (.Name y _) as [] _] [] _ => decide (x = ("list" : Str)) && decide (y = ("zip" : Str)) && gloB sc x && gloB sc y && G.blts.contains x && G.blts.contains y && noStars as && decide (as.length = 2) && mEs N G sc es as
  | sc, .ss a, .Call (.Name x _) [.Call (.Name y _) as [] _] [] _ => decide (x = ("sorted" : Str)) && decide (y = ("set" : Str)) && gloB sc x && gloB sc y && G.blts.contains x && G.blts.contains y && noStars as && (match as with | [e] => mE N G sc a e | _ => false)
  | sc, .s2 a, .Call (.Name x _) [e, .List [] _] [] _ => decide (x = ("sum" : Str)) && gloB sc x && G.blts.contains x && noStars [e] && mE N G sc a e
  | sc, .lr1 a, .Call (.Name x _) [.Call (.Name y _) as [] _] [] _ => decide (x = ("list" : Str)) && decide (y = ("range" : Str)) && gloB sc x && gloB sc y && G.blts.contains x && G.blts.contains y && noStars as && (match as with | [e] => mE N G sc a e | _ => false)
  | sc, .lr2 a b, .Call (.Name x _) [.Call (.Name y _) as [] _] [] _ => decide (x = ("list" : Str)) && decide (y = ("range" : Str)) && gloB sc x && gloB sc y && G.blts.contains x && G.blts.contains y && noStars as && (match as with | [e, e2] => mE N G sc a e && mE N G sc b e2 | _ => false)
  | _, _, _ => false
def mEs (N : List Str) (G : Gm) : Scope → Exs → List Expr → Bool
  | _, .nil, [] => true
  | sc, .cons e es, a :: as => notStar a && mE N G sc e a && mEs N G sc es as
  | _, _, _ => false
def mI (N : List Str) (G : Gm) : Scope → Itr → Expr → Expr → Bool
  | sc, .ov e, _, a => mE N G sc e a
  | sc, .rg es, _, .Call (.Name x _) as [] _ => decide (x = ("range" : Str)) && gloB sc x && G.blts.contains x && noStars as && mEs N G sc es as && decide (as.length = 1 ∨ as.length = 2)
  | sc, .zp es, tg, .Call (.Name x _) as [] _ => decide (x = ("zip" : Str)) && gloB sc x && G.blts.contains x && noStars as && mEs N G sc es as && isTupE tg && decide (as.length = 2 ∨ as.length = 3)
  | sc, .im e, tg, .Call (.Attribute o name apos) [] [] pos => decide (name = ("items" : Str)) && notBare o && (apos.endLine == pos.line) && mE N G sc e o && isTupE tg
  | sc, .ky e, _, a => mE N G sc e a
  | sc, .en e, tg, .Call (.Name x _) [a] [] _ => decide (x = ("enumerate" : Str)) && gloB sc x && G.blts.contains x && notStar a && mE N G sc e a && isTupE tg
  | _, _, _, _ => false
end

def isCall : Expr → Bool
  | .Call _ _ _ _ => true
  | _ => false
def isTupV : Expr → Bool
  | .Tuple _ _ _ => true
  | _ => false
/-- name = [..] whose list is built where the name stands -/
def swB (sc : Scope) (x : Str) (pos : Pos) : Expr → Bool
  | .ListComp _ _ s p => decide (sc.names.lookup x = some .local) && (pos.line == p.line) && !(s.names.any fun (n, k) => n == x && (k == .local || k == .cell))
  | _ => false
def loc2 (N : List Str) (sc : Scope) (i : Nat) (x : Str) : Bool := decide (N[i]? = some x) && decide (sc.names.lookup x = some .local)
def mAs (N : List Str) (G : Gm) (sc : Scope) (t : Tg) (e : Ex) : Stmt → Bool
  | .Assign [tg] a _ => mT N sc t (.inl tg) && mE N G sc e a && !(isTupV tg && isTupV a)
  | _ => false
def mPar (N : List Str) (G : Gm) (sc : Scope) (i j : Nat) (a b : Ex) : Stmt → Bool
  | .Assign [.Tuple [.Name x px, .Name y py] _ _] (.Tuple [u, v] _ _) _ => loc2 N sc i x && loc2 N sc j y && (px.line == py.line) && notStar u && notStar v && mE N G sc a u && mE N G sc b v && !(foldedForSure 8 u && foldedForSure 8 v) && !(constantsAlone 8 u && constantsAlone 8 v) && !(x == y)
  | _ => false
def mSx (N : List Str) (G : Gm) (sc : Scope) (i : Nat) (x e : Ex) : Stmt → Bool
  | .Assign [.Subscript (.Name n _) ix _] a _ => mV N sc i n && !isSlice ix && mE N G sc x ix && mE N G sc e a
  | _ => false
def mSw (N : List Str) (G : Gm) (sc : Scope) (i : Nat) (x y a b : Ex) : Stmt → Bool
  | .Assign [.Tuple [.Subscript (.Name n _) ix _, .Subscript (.Name n2 _) iy _] _ _] (.Tuple [u, v] _ _) _ => mV N sc i n && mV N sc i n2 && !isSlice ix && !isSlice iy && notStar u && notStar v && mE N G sc x ix && mE N G sc y iy && mE N G sc a u && mE N G sc b v
  | _ => false
def mRs (G : Gm) (sc : Scope) (c : Str) : Stmt → Bool
  | .Raise (some (.Call (.Name x _) [.Constant (.str _) _ _] [] _)) none _ => decide (x = c) && gloB sc x && nmOk x && G.excs.contains x
  | _ => false
def mTx (N : List Str) (G : Gm) (sc : Scope) (i j : Nat) (hs : List Str) (x n m n2 : Str) : Bool :=
  decide (n2 = n) && decide (N[j]? = some n) && decide (N[i]? = some m) && decide (sc.names.lookup n = some .local) && decide (sc.names.lookup m = some .local) && gloB sc x && nmOk x && G.excs.contains x && (hs.all fun c => G.excs.contains c && G.subs.contains (c, x)) && mV N sc j n
mutual
def mS (N : List Str) (G : Gm) (sc : Scope) : S → Stmt → Bool
  | .as t e, st => mAs N G sc t e st
  | .par i j a b, st => mPar N G sc i j a b st
  | .sx i x e, st => mSx N G sc i x e st
  | .sw i x y a b, st => mSw N G sc i x y a b st
  | .ex e, .Expr a _ => isCall a && mE N G sc e a
  | .rt e, .Return (some a) _ => mE N G sc e a
  | .rt e, .Return none _ => isNoneE e
  | .iff c a b, .If t x y _ => mE N G sc c t && mB N G sc a x && mB N G sc b y
  | .fo t it b _, .For tg iter body [] _ => mT N sc t (.inl tg) && notSet iter && mI N G sc it tg iter && mB N G sc b body
  | .wh c b _, .While t body [] _ => mE N G sc c t && mB N G sc b body
  | .tr b, .Try body (_ :: _) [] [] _ => mB N G sc b body
  | .rs c, st => mRs G sc c st
  | .tx i j hs b, .Try body [.ExceptHandler (some (.Name x _)) (some n) [.Assign [.Name m _] (.Name n2 _) _] _] [] [] _ => mB N G sc b body && mTx N G sc i j hs x n m n2
  | .nv, _ => true
  | _, _ => false
def mB (N : List Str) (G : Gm) (sc : Scope) : Ss → List Stmt → Bool
  | .nil, [] => true
  | .cons s q, a :: as => mS N G sc s a && mB N G sc q as
  | _, _ => false
end

/-! ### the context -/
def Cn.v : Cn → V
  | .none => .non
  | .bool b => .bl b
  | .int i => .int i
  | .str s => .str s
theorem Cn.rp {K : PySem.W.Frag} {F : Hp} (c : Cn) : Rp K F c.d c.v := by cases c <;> simp [Cn.d, Cn.v, Rp]
/-- what is known of an own class of errors -/
structure ExF (K : PySem.W.Frag) (mg : Str → Option Value) (x : Str) : Prop where
  mg : mg x = some (.ref (He.ga K x))
  kp : PySem.W.keepIn K (.ref (He.ga K x)) = true
  q : PySem.W.excIn K (He.ga K x) He.veBase "ValueError.__new__" = true
  sb : PySem.W.subIn K (.ref (He.ga K x)) (.type "BaseException") = some true
  ty : PySem.W.typeIn K (.ref (He.ga K x)) = some (.type "type")
structure Gd (G : Gm) (C : Call) (k : Nat) (X : Cx) (own : Scope) : Prop where
  calm : X.calm = true
  nd : X.N.Nodup
  gd : X.A.guards = some []
  rm : Room k X.A
  kd : X.env.scope.kind = .function
  sto : ∀ x, (own.names.lookup x = some .local ∨ own.names.lookup x = some .cell) → Loc X.env.scope x ∧ (X.fn x = true ∨ X.env.scope.names.lookup x = some .local)
  funs : ∀ x f, G.funs.lookup x = some f → ∃ a fd ps, X.mg x = some (.ref a) ∧ PySem.W.keepIn X.K (.ref a) = true ∧ Binds X.K fd ps [] ∧ FnG X.prog X.w X.K X.mg X.base k a fd ps (spF C X.K f) ∧ FnX X.prog X.w X.K X.mg X.base k a fd ps (spX C X.K f)
  excs : ∀ x ∈ G.excs, ExF X.K X.mg x
  subs : ∀ x ∈ G.excs, ∀ y ∈ G.excs, PySem.W.exmOne X.K (.ref (He.ga X.K x)) (.ref (He.ga X.K y)) = some (G.subs.contains (x, y))
  tcls : ∀ y ∈ G.tcls, X.mg y = some (.ref (He.ga X.K y)) ∧ ∀ c ∈ G.excs, PySem.W.kitOne X.K (.ref (He.ga X.K c)) (.ref (He.ga X.K y)) = some (G.tsub.contains (c, y))
  ecs : ∀ c ∈ G.excs, ExcC X.K (He.ga X.K c) ∧ PySem.W.kitOne X.K (.ref (He.ga X.K c)) (.type "ValueError") = some true
  cons : ∀ x c, G.cons.lookup x = some c → ∃ u, X.mg x = some u ∧ RelV c.v u
  blts : ∀ x, G.blts.contains x = true → X.mg x = none
section
variable {G : Gm} {C : Call} {k : Nat} {X : Cx} {own : Scope}
theorem Gd.units (g : Gd G C k X own) : X.A.units + 100 < cLine := by have := g.rm.un; omega
theorem visB_of {sc : Scope} {x : Str} (h : visB sc x = true) : Vis sc x := by
  unfold visB at h
  split at h
  · rename_i e; exact .inl e
  · rename_i e; exact .inr (.inl e)
  · rename_i e; exact .inr (.inr e)
  · cases h
theorem storB_of {sc : Scope} {x : Str} (h : storB sc x = true) : sc.names.lookup x = some .local ∨ sc.names.lookup x = some .cell := by
  unfold storB at h
  split at h
  · rename_i e; exact .inl e
  · rename_i e; exact .inr e
  · cases h
theorem gloB_of {x : Str} (h : gloB X.env.scope x = true) : Gl X x := by
  unfold gloB at h
  split at h
  · rename_i e; exact e
  · cases h
theorem nmOk_of {x : Str} (h : nmOk x = true) : (x == ("__debug__" : Str)) = false ∧ (x == ("__classdict__" : Str)) = false := by
  unfold nmOk at h
  simpa using h
theorem mV_of {i : Nat} {x : Str} (h : mV X.N X.env.scope i x = true) {pos : Pos} : PE X (.Name x pos) (tVar i) := by
  unfold mV at h
  simp only [Bool.and_eq_true, decide_eq_true_eq] at h
  obtain ⟨⟨h1, h2⟩, h3⟩ := h
  exact pe_var h1 (visB_of h2) (nmOk_of h3).1 (nmOk_of h3).2
/-- the block's context -/
theorem Gd.blk (g : Gd G C k X own) (s : Shared) (H : Hp) (scope : Scope) (cl : List (Str × Addr)) (A : Addr) (fp : List Addr) (hk : scope.kind = .function) : Gd G C k (X.blk s H scope (compEnvC scope cl A X.env) fp) scope where
  calm := g.calm
  nd := g.nd
  gd := g.gd
  rm := g.rm
  kd := hk
  sto := fun x h => by
    have keep : ∀ {kk : NameKind}, kk ≠ .free → scope.names.lookup x = some kk → (relS scope X.env.scope).names.lookup x = some kk := fun hk h => lookup_relS_keep hk h
    rcases h with h | h
    · exact ⟨.inl (keep (by decide) h), .inr (keep (by decide) h)⟩
    · refine ⟨.inr (keep (by decide) h), .inl ?_⟩
      show (scope.names.lookup x == some .cell) = true
      rw [h]
      rfl
  funs := g.funs
  excs := g.excs
  subs := g.subs
  tcls := g.tcls
  ecs := g.ecs
  cons := g.cons
  blts := g.blts

/-! ### weaker readings -/
theorem PE.imp {e : Expr} {t t' : TE} (h : PE X e t) (i : ∀ σ H Q, t' σ H Q → t σ H Q) : PE X e t' := ⟨fun pins s σ H Q I q => h.run pins s σ H Q I (i _ _ _ q)⟩
theorem PT.imp {e : Expr} {t t' : TT} (h : PT X e t) (i : ∀ σ H Q, t' σ H Q → t σ H Q) : PT X e t' := ⟨fun pins s σ H Q I q => h.run pins s σ H Q I (i _ _ _ q)⟩
theorem PW.imp {e : Expr} {t t' : TT} (h : PW X e t) (i : ∀ σ H Q, t' σ H Q → t σ H Q) : PW X e t' := ⟨fun wh pins s σ H Q I q => h.run wh pins s σ H Q I (i _ _ _ q)⟩
theorem PA.imp {e : List Expr} {t t' : TA} (h : PA X e t) (i : ∀ σ H Q, t' σ H Q → t σ H Q) : PA X e t' := ⟨fun pos pins s σ H Q I q => h.run pos pins s σ H Q I (i _ _ _ q)⟩
theorem PI.imp {tg e : Expr} {t t' : TI} (h : PI X tg e t) (i : ∀ σ H Q, t' σ H Q → t σ H Q) : PI X tg e t' := ⟨fun pins s σ H Q I q => h.run pins s σ H Q I (i _ _ _ q)⟩
theorem PG.imp {e : Expr} {t t' : TG} (h : PG X e t) (i : ∀ v σ H Q, t' v σ H Q → t v σ H Q) : PG X e t' := ⟨fun pins s σ H v u Q I r q => h.run pins s σ H v u Q I r (i _ _ _ _ q)⟩
theorem PS.imp {e : Stmt} {t t' : TS} (h : PS X e t) (i : ∀ D σ H, t' D σ H → t D σ H) : PS X e t' := ⟨fun pins s σ H D I q => h.run pins s σ H D I (i _ _ _ q)⟩
theorem PSs.imp {e : List Stmt} {t t' : TS} (h : PSs X e t) (i : ∀ D σ H, t' D σ H → t D σ H) : PSs X e t' := ⟨fun pins s σ H D I q => h.run pins s σ H D I (i _ _ _ q)⟩

/-! ### a call of a def that no exception leaves -/
variable {f : Addr} {fd : FuncData} {ps : List Str} {sp : List V → Hp → VK → Prop} {x : Str} {p pos : Pos} {e : Expr} {es : List Expr} {t : TA}
theorem run_fnG {pins : List (Addr × Obj)} {σ : SG} {H : Hp} {s : Shared} {Q : VK} {us : List Value} {vs : List V} (F : FnG X.prog X.w X.K X.mg X.base k f fd ps sp) (hr : Room k X.A) (hgd : X.A.guards = some []) (hb : Binds X.K fd ps [])
    (I : Inv X pins σ H s) (r : Vals vs us) (h : sp vs H Q) : wpAny (model X.prog X.w) X.A (call (.ref f) us) (EP X pins σ Q) X.xe s := by
  have bt := hb s us I.kIn (by rw [List.append_nil, ← r.length]; exact F.len _ _ _ h)
  rw [List.append_nil] at bt
  refine wpAny_call (codeAny_mono (F.run X.A X.stack s H ⟨us, []⟩ us vs Q hr hgd I.env0 bt r h) fun rr s' hq => ?_)
  cases rr with
  | error ex => exact hq.elim
  | ok fl =>
    cases fl with
    | ret u => exact I.after hq
    | next => exact False.elim hq
    | brk => exact False.elim hq
    | cont => exact False.elim hq
theorem star_cons {env : PySem.Env} {e : Expr} {es : List Expr} (h : notStar e = true) : starEach (e :: es) env = (false, eval e env) :: starEach es env := by
  cases e <;> first | rfl | cases h
theorem star_none {env : PySem.Env} {pos : Pos} : ∀ {es : List Expr}, noStars es = true → (backTo pos (starEach es env)).any (·.1) = false
  | [], _ => rfl
  | e :: es, h => by
    unfold noStars at h
    simp only [Bool.and_eq_true] at h
    rw [star_cons h.1]
    show (false || (backTo pos (starEach es env)).any (·.1)) = false
    rw [star_none h.2]
    rfl
theorem star_all {env : PySem.Env} {pos : Pos} : ∀ {es : List Expr}, noStars es = true → (backTo pos (starEach es env)).all (fun x => !x.1) = true
  | [], _ => rfl
  | e :: es, h => by
    unfold noStars at h
    simp only [Bool.and_eq_true] at h
    rw [star_cons h.1]
    show (true && (backTo pos (starEach es env)).all (fun x => !x.1)) = true
    rw [star_all h.2]
    rfl
theorem noStars_tail {e : Expr} {es : List Expr} (h : noStars (e :: es) = true) : notStar e = true ∧ noStars es = true := by
  unfold noStars at h
  simpa using h
def tCallG (sp : List V → Hp → VK → Prop) (t : TA) : TE := fun σ H Q => t σ H fun vs H1 => sp vs H1 Q
theorem pe_callGx (F : FnG X.prog X.w X.K X.mg X.base k f fd ps sp) (hr : Room k X.A) (hgd : X.A.guards = some []) (hg : Gl X x) (hm : X.mg x = some (.ref f)) (hk : PySem.W.keepIn X.K (.ref f) = true) (hb : Binds X.K fd ps [])
    (ha : PA X (e :: es) t) (hdb : (x == ("__debug__" : Str)) = false) (hn : noStars (e :: es) = true) : PE X (.Call (.Name x p) (e :: es) [] pos) (tCallG sp t) := by
  refine ⟨fun pins s σ H Q I h => ?_⟩
  refine wpAny_Call_Name_kw (ld_glob I hg hm ?_ hdb)
  obtain ⟨h1, h2⟩ := noStars_tail hn
  refine PySem.W.callWith_K (h₀ := X.base) I.ok.mod.kin hk (thn (ha.run pos pins s σ H _ I h) fun us s1 ⟨vs, H1, I1, r, q⟩ => ⟨I1.kIn, ?_⟩) (star_cons h1) (star_none h2)
  exact run_fnG F hr hgd hb I1 r q
theorem pe_callGx0 (F : FnG X.prog X.w X.K X.mg X.base k f fd ps sp) (hr : Room k X.A) (hgd : X.A.guards = some []) (hg : Gl X x) (hm : X.mg x = some (.ref f)) (hk : PySem.W.keepIn X.K (.ref f) = true) (hb : Binds X.K fd ps [])
    (hdb : (x == ("__debug__" : Str)) = false) : PE X (.Call (.Name x p) [] [] pos) (tCallG sp tNil) := by
  refine ⟨fun pins s σ H Q I h => ?_⟩
  refine wpAny_Call_Name_kw (ld_glob I hg hm ?_ hdb)
  exact PySem.W.callWith_K0 I.kIn hk (run_fnG (us := []) F hr hgd hb I .nil h)
/-! ### a call of a def that raises -/
section
variable {spx : List V → Hp → XK → Prop} {W : WX}
theorem run_fnX {pins : List (Addr × Obj)} {σ : SG} {H : Hp} {s : Shared} {Q : VK} {us : List Value} {vs : List V} (F : FnX X.prog X.w X.K X.mg X.base k f fd ps spx) (tk : Takes X W) (hr : Room k X.A) (hgd : X.A.guards = some []) (hb : Binds X.K fd ps [])
    (I : Inv X pins σ H s) (r : Vals vs us) (h : spx vs H fun cls d H' => W cls d σ H') : wpAny (model X.prog X.w) X.A (call (.ref f) us) (EP X pins σ Q) X.xe s := by
  have bt := hb s us I.kIn (by rw [List.append_nil, ← r.length]; exact F.len _ _ _ h)
  rw [List.append_nil] at bt
  refine wpAny_call (codeAny_mono (F.run X.A X.stack s H ⟨us, []⟩ us vs _ hr hgd I.env0 bt r h) fun rr s' hq => ?_)
  cases rr with
  | error ex => exact tk ex s' (XE.of_call I (fun _ _ _ z => z) hq)
  | ok fl =>
    cases fl with
    | ret u =>
      obtain ⟨_, _, _, _, _, _, _, z⟩ := hq
      exact z.elim
    | next => exact False.elim hq
    | brk => exact False.elim hq
    | cont => exact False.elim hq
def tCallX (spx : List V → Hp → XK → Prop) (W : WX) (t : TA) : TE := fun σ H _ => t σ H fun vs H1 => spx vs H1 fun cls d H' => W cls d σ H'
theorem pe_callXx (F : FnX X.prog X.w X.K X.mg X.base k f fd ps spx) (tk : Takes X W) (hr : Room k X.A) (hgd : X.A.guards = some []) (hg : Gl X x) (hm : X.mg x = some (.ref f)) (hk : PySem.W.keepIn X.K (.ref f) = true) (hb : Binds X.K fd ps [])
    (ha : PA X (e :: es) t) (hdb : (x == ("__debug__" : Str)) = false) (hn : noStars (e :: es) = true) : PE X (.Call (.Name x p) (e :: es) [] pos) (tCallX spx W t) := by
  refine ⟨fun pins s σ H Q I h => ?_⟩
  refine wpAny_Call_Name_kw (ld_glob I hg hm ?_ hdb)
  obtain ⟨h1, h2⟩ := noStars_tail hn
  refine PySem.W.callWith_K (h₀ := X.base) I.ok.mod.kin hk (thn (ha.run pos pins s σ H _ I h) fun us s1 ⟨vs, H1, I1, r, q⟩ => ⟨I1.kIn, ?_⟩) (star_cons h1) (star_none h2)
  exact run_fnX F tk hr hgd hb I1 r q
end
end
end Bx

set_option Elab.async false
set_option linter.all false
set_option maxRecDepth 100000
set_option autoImplicit false
set_option maxHeartbeats 2000000
/-! Expressions, one kind at a time: the evaluator's reading against the layer's. -/
namespace Bx
open PySem PySem.Spec PyProof.Rows L2

section
variable {C : Call} {K : PySem.W.Frag} {F H F1 H1 F2 H2 : Hp} {r r1 r2 : Env} {σ : SG}
/-! ### slots set anew -/
theorem Wd.lt (w : Wd K F H r σ) {i : Nat} {x : Sl} (h : r[i]? = some x) : i < r.length := (List.getElem?_eq_some_iff.mp h).1
theorem set_get {i j : Nat} {x y : Sl} (h : (r.set i x)[j]? = some y) : (i = j ∧ y = x) ∨ (i ≠ j ∧ r[j]? = some y) := by
  by_cases e : i = j
  · subst e
    left
    by_cases hl : i < r.length
    · rw [List.getElem?_set_self hl] at h
      exact ⟨rfl, (Option.some.inj h).symm⟩
    · rw [List.getElem?_eq_none (by simpa using hl)] at h
      cases h
  · rw [List.getElem?_set_ne e] at h
    exact .inr ⟨e, h⟩
/-- a slot forgotten, or told frozen data -/
theorem Wd.setS (w : Wd K F H r σ) {i : Nat} {x : Sl} (hx : SlOk K F H σ i x) (no : ∀ d, x ≠ .ow d) : Wd K F H (r.set i x) σ := by
  refine ⟨w.le, by rw [List.length_set]; exact w.len, fun j y h => ?_, fun j j' d d' a h1 h2 h3 h4 => ?_⟩
  · rcases set_get h with ⟨rfl, rfl⟩ | ⟨_, h⟩
    · exact hx
    · exact w.sl j y h
  · rcases set_get h1 with ⟨rfl, e⟩ | ⟨_, h1⟩
    · exact (no d e.symm).elim
    rcases set_get h2 with ⟨rfl, e⟩ | ⟨_, h2⟩
    · exact (no d' e.symm).elim
    exact w.inj j j' d d' a h1 h2 h3 h4
theorem own_setS {i : Nat} {x : Sl} (no : ∀ d, x ≠ .ow d) {a : Addr} (h : Own (r.set i x) σ a) : Own r σ a := by
  obtain ⟨j, d, h1, h2⟩ := h
  rcases set_get h1 with ⟨rfl, e⟩ | ⟨_, h1⟩
  · exact (no d e.symm).elim
  · exact ⟨j, d, h1, h2⟩
/-- an owned thing written to -/
theorem Wd.write (w : Wd K F H r σ) {i : Nat} {d d' : PyData} {a : Addr} {o : HO} (hi : r[i]? = some (Sl.ow d)) (hs : σ[i]? = some (some (V.ref a))) (ho : OwnAt K F (upd H a o) d' a) : Wd K F (upd H a o) (r.set i (.ow d')) σ := by
  have hF : F a = none := (w.own ⟨i, d, hi, hs⟩).1
  refine ⟨fun b u e => by rw [upd_ne (ne_of_none e hF)]; exact w.le b u e, by rw [List.length_set]; exact w.len, fun j y h => ?_, fun j j' e e' b h1 h2 h3 h4 => ?_⟩
  · rcases set_get h with ⟨rfl, rfl⟩ | ⟨ne, h⟩
    · exact ⟨a, hs, ho⟩
    · have q := w.sl j y h
      cases y with
      | no => trivial
      | fr x => exact q
      | ow x =>
        obtain ⟨b, e1, z⟩ := q
        have nb : b ≠ a := fun e => ne (w.inj i j d x a hi h hs (e ▸ e1))
        exact ⟨b, e1, z.off nb⟩
      | lk k => exact q.elim
      | ln k => exact q.elim
      | ex C => exact q
      | rz C => exact q.elim
  · have back : ∀ {j : Nat} {e : PyData}, (r.set i (.ow d'))[j]? = some (Sl.ow e) → ∃ e0, r[j]? = some (Sl.ow e0) := fun {j e} h => by
      rcases set_get h with ⟨rfl, _⟩ | ⟨_, h⟩
      · exact ⟨d, hi⟩
      · exact ⟨e, h⟩
    obtain ⟨e0, h1⟩ := back h1
    obtain ⟨e1, h2⟩ := back h2
    exact w.inj j j' e0 e1 b h1 h2 h3 h4
theorem own_write {i : Nat} {d d' : PyData} (hi : r[i]? = some (Sl.ow d)) {a : Addr} (h : Own (r.set i (.ow d')) σ a) : Own r σ a := by
  obtain ⟨j, e, h1, h2⟩ := h
  rcases set_get h1 with ⟨rfl, _⟩ | ⟨_, h1⟩
  · exact ⟨i, d, hi, h2⟩
  · exact ⟨j, e, h1, h2⟩
theorem Fr.write {O : Addr → Prop} (f : Fr O F H F1 H1) {a : Addr} {o : HO} (h : O a) : Fr O F H F1 (upd H1 a o) :=
  ⟨f.ff, f.new, fun c u e n => by rw [upd_ne (fun z : c = a => n (by rw [z]; exact h))]; exact f.hh c u e n⟩

/-! ### one, two values -/
theorem Nw.back {w : Sl} {v : V} (f : Fr (Own r σ) F H F1 H1) (sub : ∀ a, Own r1 σ a → Own r σ a) (n : Nw r1 σ H1 w v) : Nw r σ H w v := by
  cases w with
  | ow d =>
    intro a e
    rcases n a e with q | q
    · by_cases no : Own r σ a
      · exact .inr no
      · left
        cases k : H a with
        | none => rfl
        | some u => rw [f.hh a u k no] at q; cases q
    · exact .inr (sub a q)
  | _ => trivial
theorem NwL.back : ∀ {ws : List Sl} {vs : List V}, Fr (Own r σ) F H F1 H1 → (∀ a, Own r1 σ a → Own r σ a) → NwL r1 σ H1 ws vs → NwL r σ H ws vs
  | [], _, _, _, _ => by simp [NwL]
  | _ :: _, [], _, _, _ => by simp [NwL]
  | w :: ws, v :: vs, f, s, n => by
    unfold NwL at n ⊢
    exact ⟨n.1.back f s, NwL.back f s n.2⟩
theorem tE_two {a b : Ex} {x y : Sl} (wd : Wd K F H r σ) (ha : evE C a r = some (x, r1)) (hb : evE C b r1 = some (y, r2)) {R : V → V → Hp → Prop}
    (h : ∀ v u F2 H2, Fr (Own r σ) F H F2 H2 → Wd K F2 H2 r2 σ → (∀ c, Own r2 σ c → Own r σ c) → RpV K F2 H2 r2 σ x v → RpV K F2 H2 r2 σ y u → Nw r σ H x v → Nw r σ H y u → R v u H2) :
    tE C K a σ H fun v H1 => tE C K b σ H1 fun u H2 => R v u H2 := by
  refine ⟨F, r, x, r1, wd, ha, fun v F1 H1 p => ⟨F1, r1, y, r2, p.wd, hb, fun u F2 H2 q => ?_⟩⟩
  exact h v u F2 H2 (p.fr.trans q.fr fun c k => .inl (p.sub c k)) q.wd (fun c k => p.sub c (q.sub c k)) (p.rp.go q.fr q.sub) q.rp p.nw (q.nw.back p.fr p.sub)
/-- what an operator gives, as an expression's -/
theorem Res.of {w : Sl} {Q : VK} (f : Fr (Own r σ) F H F1 H1) (wd : Wd K F1 H1 r1 σ) (sub : ∀ a, Own r1 σ a → Own r σ a) (q : ∀ v F' H', Pe K F H r σ r1 w v F' H' → Q v H') : Res K F1 H1 w Q :=
  fun v F' H' f2 le g => q v F' H' (Pe.res f wd sub f2 le g)
theorem Pe.same {d : PyData} {v : V} (f : Fr (Own r σ) F H F1 H1) (wd : Wd K F1 H1 r1 σ) (sub : ∀ a, Own r1 σ a → Own r σ a) (h : Rp K F1 d v) : Pe K F H r σ r1 (.fr d) v F1 H1 := ⟨f, wd, sub, h, trivial⟩

/-! ### tests -/
theorem tT_val {e : Ex} {Q : Bool → Hp → Prop} (h : tT C K e σ H Q) : tE C K e σ H fun x H1 => ∃ c, x = .bl c ∧ Q c H1 := by
  obtain ⟨F, r, b, r', wd, he, q⟩ := h
  exact ⟨F, r, .fr (.bool b), r', wd, he, fun v F' H' p => ⟨b, p.rp, q F' H' p.fr p.wd p.sub⟩⟩

/-! ### names, constants -/
theorem core_k {c : Cn} {Q : VK} (h : tE C K (.k c) σ H Q) : Q c.v H := by
  obtain ⟨F, r, w, r', wd, he, q⟩ := h
  simp only [evE, Option.some.injEq, Prod.mk.injEq] at he
  obtain ⟨rfl, rfl⟩ := he
  exact q _ F H (Pe.same Fr.refl wd (fun _ k => k) c.rp)
theorem mv_pe (wd : Wd K F H r σ) {i : Nat} {d : PyData} (hr : r[i]? = some (Sl.ow d)) : ∃ a, σ[i]? = some (some (V.ref a)) ∧ Pe K F H r σ (r.set i .no) (.ow d) (.ref a) F H := by
  obtain ⟨a, e1, z⟩ := wd.sl i _ hr
  refine ⟨a, e1, Fr.refl, wd.setS (x := .no) trivial (fun _ => nofun), fun c k => own_setS (x := .no) (fun _ => nofun) k, ⟨a, rfl, z, fun k => ?_⟩, fun b e => ?_⟩
  · obtain ⟨j, d', h1, h2⟩ := k
    rcases set_get h1 with ⟨_, e⟩ | ⟨ne, h1⟩
    · cases e
    · exact ne (wd.inj i j d d' a hr h1 e1 h2)
  · cases e
    exact .inr ⟨i, d, hr, e1⟩
theorem core_mv {i : Nat} {Q : VK} (h : tE C K (.mv i) σ H Q) : tVar i σ H Q := by
  obtain ⟨F, r, w, r', wd, he, q⟩ := h
  simp only [evE] at he
  split at he
  · rename_i d hr
    simp only [Option.some.injEq, Prod.mk.injEq] at he
    obtain ⟨rfl, rfl⟩ := he
    obtain ⟨v, e1, z⟩ := wd.sl i _ hr
    exact ⟨v, e1, q _ F H (Pe.same Fr.refl wd (fun _ k => k) z)⟩
  · rename_i d hr
    simp only [Option.some.injEq, Prod.mk.injEq] at he
    obtain ⟨rfl, rfl⟩ := he
    obtain ⟨a, e1, p⟩ := mv_pe wd hr
    exact ⟨.ref a, e1, q _ F H p⟩
  · cases he
theorem core_v {i : Nat} {Q : VK} (h : tE C K (.v i) σ H Q) : tVar i σ H Q := by
  obtain ⟨F, r, w, r', wd, he, q⟩ := h
  simp only [evE] at he
  split at he
  · rename_i d hr
    simp only [Option.some.injEq, Prod.mk.injEq] at he
    obtain ⟨rfl, rfl⟩ := he
    obtain ⟨v, e1, z⟩ := wd.sl i _ hr
    exact ⟨v, e1, q _ F H (Pe.same Fr.refl wd (fun _ k => k) z)⟩
  · rename_i d hr
    simp only [Option.some.injEq, Prod.mk.injEq] at he
    obtain ⟨rfl, rfl⟩ := he
    obtain ⟨a, e1, p⟩ := mv_pe wd hr
    obtain ⟨F2, f, w2, z, s⟩ := freeze1 (d := d) p rfl
    refine ⟨.ref a, e1, q _ F2 H ⟨f, ?_, fun c k => own_setS (x := .fr d) (fun _ => nofun) k, z, trivial⟩⟩
    have := w2.setS (i := i) (x := .fr d) ⟨_, e1, z⟩ fun _ => nofun
    rwa [List.set_set] at this
  · cases he
theorem core_bw {i : Nat} {Q : VK} (h : tE C K (.bw i) σ H Q) : tVar i σ H Q := by
  obtain ⟨F, r, w, r', wd, he, q⟩ := h
  simp only [evE] at he
  split at he
  · rename_i d hr
    simp only [Option.some.injEq, Prod.mk.injEq] at he
    obtain ⟨rfl, rfl⟩ := he
    obtain ⟨v, e1, z⟩ := wd.sl i _ hr
    exact ⟨v, e1, q _ F H ⟨Fr.refl, wd, fun _ k => k, e1, trivial⟩⟩
  · rename_i d hr
    simp only [Option.some.injEq, Prod.mk.injEq] at he
    obtain ⟨rfl, rfl⟩ := he
    obtain ⟨a, e1, z⟩ := wd.sl i _ hr
    exact ⟨_, e1, q _ F H ⟨Fr.refl, wd, fun _ k => k, e1, trivial⟩⟩
  · cases he
theorem core_ln {i : Nat} {Q : VK} (h : tE C K (.ln i) σ H Q) : tVar i σ H Q := by
  obtain ⟨F, r, w, r', wd, he, q⟩ := h
  simp only [evE] at he
  split at he
  · rename_i d hr
    simp only [Option.some.injEq, Prod.mk.injEq] at he
    obtain ⟨rfl, rfl⟩ := he
    obtain ⟨a, e1, z⟩ := wd.sl i _ hr
    exact ⟨_, e1, q _ F H ⟨Fr.refl, wd, fun _ k => k, e1, trivial⟩⟩
  · cases he

theorem core_fzn {a : Ex} {Q : VK} (h : tE C K (.fzn a) σ H Q) : tE C K a σ H Q := by
  obtain ⟨F, r, w, r', wd, he, q⟩ := h
  simp only [evE] at he
  split at he
  · rename_i d r1 h1
    simp only [Option.some.injEq, Prod.mk.injEq] at he
    obtain ⟨rfl, rfl⟩ := he
    exact ⟨F, r, _, r1, wd, h1, q⟩
  · rename_i xs r1 h1
    simp only [Option.some.injEq, Prod.mk.injEq] at he
    obtain ⟨rfl, rfl⟩ := he
    refine ⟨F, r, _, r1, wd, h1, fun v F' H' p => ?_⟩
    obtain ⟨F2, f, w2, z, s⟩ := freeze1 (d := .list xs) p rfl
    exact q v F2 H' ⟨f, w2, p.sub, z, trivial⟩
  · rename_i xs r1 h1
    simp only [Option.some.injEq, Prod.mk.injEq] at he
    obtain ⟨rfl, rfl⟩ := he
    refine ⟨F, r, _, r1, wd, h1, fun v F' H' p => ?_⟩
    obtain ⟨F2, f, w2, z, s⟩ := freeze1 (d := .dict xs) p rfl
    exact q v F2 H' ⟨f, w2, p.sub, z, trivial⟩
  · cases he
theorem core_fznT {a : Ex} {Q : Bool → Hp → Prop} (h : tT C K (.fzn a) σ H Q) : tT C K a σ H Q := by
  obtain ⟨F, r, b, r', wd, he, q⟩ := h
  simp only [evE] at he
  split at he
  · rename_i d r1 h1
    simp only [Option.some.injEq, Prod.mk.injEq, Sl.fr.injEq] at he
    obtain ⟨rfl, rfl⟩ := he
    exact ⟨F, r, b, r1, wd, h1, q⟩
  · simp at he
  · simp at he
  · cases he
/-! ### lists of expressions -/
def tEs (C : Call) (K : PySem.W.Frag) (es : Exs) : TA := fun σ H Q => ∃ F r ws r', Wd K F H r σ ∧ evEs C es r = some (ws, r') ∧ ∀ vs F' H', PeL K F H r σ r' ws vs F' H' → Q vs H'
theorem core_nil {Q : List V → Hp → Prop} (h : tEs C K .nil σ H Q) : tNil σ H Q := by
  obtain ⟨F, r, w, r', wd, he, q⟩ := h
  simp only [evEs, Option.some.injEq, Prod.mk.injEq] at he
  obtain ⟨rfl, rfl⟩ := he
  exact q [] F H ⟨Fr.refl, wd, fun _ k => k, rfl, by simp [NwL]⟩
theorem core_cons {e : Ex} {es : Exs} {Q : List V → Hp → Prop} (h : tEs C K (.cons e es) σ H Q) : tCons (tE C K e) (tEs C K es) σ H Q := by
  obtain ⟨F, r, w, r', wd, he, q⟩ := h
  simp only [evEs] at he
  split at he
  · rename_i x r1 h1
    split at he
    · rename_i ws r2 h2
      simp only [Option.some.injEq, Prod.mk.injEq] at he
      obtain ⟨rfl, rfl⟩ := he
      refine ⟨F, r, x, r1, wd, h1, fun v F1 H1 p => ⟨F1, r1, ws, r2, p.wd, h2, fun vs F2 H2 p2 => ?_⟩⟩
      exact q _ F2 H2 ⟨p.fr.trans p2.fr fun c k => .inl (p.sub c k), p2.wd, fun c k => p.sub c (p2.sub c k), ⟨v, vs, rfl, p.rp.go p2.fr p2.sub, p2.rp⟩, p.nw, p2.nw.back p.fr p.sub⟩
    · cases he
  · cases he
/-- what stands in a display is frozen -/
theorem disp {es : Exs} {ws : List Sl} {ds : List PyData} {r' : Env} {w : Sl} {Q : VK} {mk : List V → HO} (wd : Wd K F H r σ) (he : evEs C es r = some (ws, r')) (hf : fzL ws = some ds) (hz : ds.length ≤ SZ)
    (q : ∀ v F' H', Pe K F H r σ r' w v F' H' → Q v H') (h : ∀ vs F2 H2, Same F2 H2 → RpA K F2 ds vs → Res K F2 H2 w Q → ∀ p, H2 p = none → Q (.ref p) (upd H2 p (mk vs))) :
    tEs C K es σ H fun xs H1 => xs.length ≤ sizeLine ∧ ∀ p, H1 p = none → Q (.ref p) (upd H1 p (mk xs)) := by
  refine ⟨F, r, ws, r', wd, he, fun vs F1 H1 p => ?_⟩
  obtain ⟨F2, f, w2, z, s⟩ := freeze p hf
  exact ⟨by rw [← z.len, ← SZ_eq]; exact hz, h vs F2 H1 w2.le z (Res.of f w2 p.sub q)⟩
theorem core_tup {es : Exs} {Q : VK} (h : tE C K (.tup es) σ H Q) : tTup (tEs C K es) σ H Q := by
  obtain ⟨F, r, w, r', wd, he, q⟩ := h
  simp only [evE] at he
  split at he
  · rename_i ws r1 h1
    split at he
    · rename_i ds h2
      split at he
      · rename_i hz
        simp only [Option.some.injEq, Prod.mk.injEq] at he
        obtain ⟨rfl, rfl⟩ := he
        exact disp wd h1 h2 hz q fun vs F2 H2 le z res p hp => res.newT le z hp
      · cases he
    · cases he
  · cases he
theorem core_lst {es : Exs} {Q : VK} (h : tE C K (.lst es) σ H Q) : tLst (tEs C K es) σ H Q := by
  obtain ⟨F, r, w, r', wd, he, q⟩ := h
  simp only [evE] at he
  split at he
  · rename_i ws r1 h1
    split at he
    · rename_i ds h2
      split at he
      · rename_i hz
        simp only [Option.some.injEq, Prod.mk.injEq] at he
        obtain ⟨rfl, rfl⟩ := he
        exact disp wd h1 h2 hz q fun vs F2 H2 le z res p hp => res.newL le z hp
      · cases he
    · cases he
  · cases he

/-! ### operators -/
theorem core_bin {o : BOp} {a b : Ex} {Q : VK} (h : tE C K (.bin o a b) σ H Q) : tOp (rBin K o) (tE C K a) (tE C K b) σ H Q := by
  obtain ⟨F, r, w, r', wd, he, q⟩ := h
  simp only [evE] at he
  split at he
  · rename_i x r1 h1
    split at he
    · rename_i y r2 h2
      split at he
      · rename_i d e h3 h4
        split at he
        · rename_i u h5
          simp only [Option.some.injEq, Prod.mk.injEq] at he
          obtain ⟨rfl, rfl⟩ := he
          exact tE_two wd h1 h2 fun v w F2 H2 f w2 sub p1 p2 _ _ => ⟨F2, d, e, u, w2.le, see_ok w2 p1 h3, see_ok w2 p2 h4, h5, Res.of f w2 sub q⟩
        · cases he
      · cases he
    · cases he
  · cases he
theorem core_cmp {o : COp} {a b : Ex} {Q : VK} (h : tE C K (.cmp o a b) σ H Q) : tOp (rCmp K o) (tE C K a) (tE C K b) σ H Q := by
  obtain ⟨F, r, w, r', wd, he, q⟩ := h
  simp only [evE] at he
  split at he
  · rename_i x r1 h1
    split at he
    · rename_i y r2 h2
      split at he
      · rename_i d e h3 h4
        split at he
        · rename_i u h5
          simp only [Option.some.injEq, Prod.mk.injEq] at he
          obtain ⟨rfl, rfl⟩ := he
          exact tE_two wd h1 h2 fun v w F2 H2 f w2 sub p1 p2 _ _ => ⟨F2, d, e, u, w2.le, see_ok w2 p1 h3, see_ok w2 p2 h4, h5, q _ F2 H2 (Pe.same f w2 sub rfl)⟩
        · cases he
      · cases he
    · cases he
  · cases he
theorem core_ix {a b : Ex} {Q : VK} (h : tE C K (.ix a b) σ H Q) : tOp (rIdx K) (tE C K a) (tE C K b) σ H Q ∨ tDGet (tE C K a) (tE C K b) σ H Q := by
  obtain ⟨F, r, w, r', wd, he, q⟩ := h
  simp only [evE] at he
  split at he
  · rename_i x r1 h1
    split at he
    · rename_i y r2 h2
      split at he
      · rename_i d e h3 h4
        split at he
        · rename_i u h5
          simp only [Option.some.injEq, Prod.mk.injEq] at he
          obtain ⟨rfl, rfl⟩ := he
          unfold idxA at h5
          split at h5
          · rename_i kvs k
            split at h5
            · rename_i qk hk
              right
              refine tE_two wd h1 h2 fun v w F2 H2 f w2 sub p1 p2 _ _ => ?_
              obtain ⟨a, rfl, hd⟩ := (see_ok w2 p1 h3).dct w2.le
              rcases hd with ⟨kv, rd, rk⟩ | ⟨_, xs, _, rn⟩
              · have e2 : w = kV qk := by
                  have z := (see_ok w2 p2 h4).rp w2.le
                  exact keyD_kV hk z
                obtain ⟨v, z1, z2⟩ := (RpK.get rk).1 _ h5
                exact ⟨a, v, rfl, .inl ⟨kv, qk, rd, e2, z1.symm⟩, q v F2 H2 (Pe.same f w2 sub z2)⟩
              · rw [RpN.dGet qk rn] at h5; cases h5
            · left
              exact tE_two wd h1 h2 fun v w F2 H2 f w2 sub p1 p2 _ _ => ⟨F2, _, _, u, w2.le, see_ok w2 p1 h3, see_ok w2 p2 h4, h5, fun g hg => q _ F2 H2 (Pe.same f w2 sub hg)⟩
          · left
            exact tE_two wd h1 h2 fun v w F2 H2 f w2 sub p1 p2 _ _ => ⟨F2, d, e, u, w2.le, see_ok w2 p1 h3, see_ok w2 p2 h4, h5, fun g hg => q _ F2 H2 (Pe.same f w2 sub hg)⟩
        · cases he
      · cases he
    · cases he
  · cases he
theorem core_neg {a : Ex} {Q : VK} (h : tE C K (.neg a) σ H Q) : tUn (rU fun i => .int (-i)) (tE C K a) σ H Q := by
  obtain ⟨F, r, w, r', wd, he, q⟩ := h
  simp only [evE] at he
  split at he
  · rename_i i r1 h1
    simp only [Option.some.injEq, Prod.mk.injEq] at he
    obtain ⟨rfl, rfl⟩ := he
    exact ⟨F, r, _, r1, wd, h1, fun v F1 H1 p => ⟨i, p.rp, q _ F1 H1 (Pe.same p.fr p.wd p.sub rfl)⟩⟩
  · cases he
theorem core_nt {a : Ex} {Q : VK} (h : tE C K (.nt a) σ H Q) : tNotV (tE C K a) σ H Q := by
  obtain ⟨F, r, w, r', wd, he, q⟩ := h
  simp only [evE] at he
  split at he
  · rename_i i r1 h1
    simp only [Option.some.injEq, Prod.mk.injEq] at he
    obtain ⟨rfl, rfl⟩ := he
    exact ⟨F, r, _, r1, wd, h1, fun v F1 H1 p => ⟨i, p.rp, q _ F1 H1 (Pe.same p.fr p.wd p.sub rfl)⟩⟩
  · cases he
theorem core_ntT {a : Ex} {Q : Bool → Hp → Prop} (h : tT C K (.nt a) σ H Q) : tNot (tT C K a) σ H Q := by
  obtain ⟨F, r, b, r', wd, he, q⟩ := h
  simp only [evE] at he
  split at he
  · rename_i i r1 h1
    simp only [Option.some.injEq, Prod.mk.injEq, Sl.fr.injEq, PyData.bool.injEq] at he
    obtain ⟨rfl, rfl⟩ := he
    exact ⟨F, r, _, r1, wd, h1, fun F1 H1 f w s => q F1 H1 f w s⟩
  · cases he
theorem core_an {a b : Ex} {Q : VK} (h : tE C K (.an a b) σ H Q) : tAndV (tE C K a) (tE C K b) σ H Q := by
  obtain ⟨F, r, w, r', wd, he, q⟩ := h
  simp only [evE] at he
  split at he
  · rename_i r1 h1
    split at he
    · rename_i c r2 h2
      simp only [Option.some.injEq, Prod.mk.injEq] at he
      obtain ⟨rfl, rfl⟩ := he
      refine ⟨F, r, _, r1, wd, h1, fun v F1 H1 p => ⟨true, p.rp, ?_⟩⟩
      rw [if_pos rfl]
      exact ⟨F1, r1, _, r2, p.wd, h2, fun v F2 H2 p2 => q _ F2 H2 ⟨p.fr.trans p2.fr fun c k => .inl (p.sub c k), p2.wd, fun c k => p.sub c (p2.sub c k), p2.rp, trivial⟩⟩
    · cases he
  · rename_i r1 h1
    simp only [Option.some.injEq, Prod.mk.injEq] at he
    obtain ⟨rfl, rfl⟩ := he
    refine ⟨F, r, _, r1, wd, h1, fun v F1 H1 p => ⟨false, p.rp, ?_⟩⟩
    rw [if_neg (by decide)]
    exact q _ F1 H1 (Pe.same p.fr p.wd p.sub rfl)
  · cases he
theorem core_orr {a b : Ex} {Q : VK} (h : tE C K (.orr a b) σ H Q) : tOrV (tE C K a) (tE C K b) σ H Q := by
  obtain ⟨F, r, w, r', wd, he, q⟩ := h
  simp only [evE] at he
  split at he
  · rename_i r1 h1
    simp only [Option.some.injEq, Prod.mk.injEq] at he
    obtain ⟨rfl, rfl⟩ := he
    refine ⟨F, r, _, r1, wd, h1, fun v F1 H1 p => ⟨true, p.rp, ?_⟩⟩
    rw [if_pos rfl]
    exact q _ F1 H1 (Pe.same p.fr p.wd p.sub rfl)
  · rename_i r1 h1
    split at he
    · rename_i c r2 h2
      simp only [Option.some.injEq, Prod.mk.injEq] at he
      obtain ⟨rfl, rfl⟩ := he
      refine ⟨F, r, _, r1, wd, h1, fun v F1 H1 p => ⟨false, p.rp, ?_⟩⟩
      rw [if_neg (by decide)]
      exact ⟨F1, r1, _, r2, p.wd, h2, fun v F2 H2 p2 => q _ F2 H2 ⟨p.fr.trans p2.fr fun c k => .inl (p.sub c k), p2.wd, fun c k => p.sub c (p2.sub c k), p2.rp, trivial⟩⟩
    · cases he
  · cases he
theorem core_anT {a b : Ex} {Q : Bool → Hp → Prop} (h : tT C K (.an a b) σ H Q) : tAnd (tT C K a) (tT C K b) σ H Q := by
  obtain ⟨F, r, w, r', wd, he, q⟩ := h
  simp only [evE] at he
  split at he
  · rename_i r1 h1
    split at he
    · rename_i c r2 h2
      simp only [Option.some.injEq, Prod.mk.injEq, Sl.fr.injEq, PyData.bool.injEq] at he
      obtain ⟨rfl, rfl⟩ := he
      refine ⟨F, r, true, r1, wd, h1, fun F1 H1 f w s => ?_⟩
      show tT C K b σ H1 Q
      exact ⟨F1, r1, _, r2, w, h2, fun F2 H2 f2 w2 s2 => q F2 H2 (f.trans f2 fun c k => .inl (s c k)) w2 (fun c k => s c (s2 c k))⟩
    · cases he
  · rename_i r1 h1
    simp only [Option.some.injEq, Prod.mk.injEq, Sl.fr.injEq, PyData.bool.injEq] at he
    obtain ⟨rfl, rfl⟩ := he
    refine ⟨F, r, false, r1, wd, h1, fun F1 H1 f w s => ?_⟩
    show Q false H1
    exact q F1 H1 f w s
  · cases he
theorem core_orT {a b : Ex} {Q : Bool → Hp → Prop} (h : tT C K (.orr a b) σ H Q) : tOr (tT C K a) (tT C K b) σ H Q := by
  obtain ⟨F, r, w, r', wd, he, q⟩ := h
  simp only [evE] at he
  split at he
  · rename_i r1 h1
    simp only [Option.some.injEq, Prod.mk.injEq, Sl.fr.injEq, PyData.bool.injEq] at he
    obtain ⟨rfl, rfl⟩ := he
    refine ⟨F, r, true, r1, wd, h1, fun F1 H1 f w s => ?_⟩
    show Q true H1
    exact q F1 H1 f w s
  · rename_i r1 h1
    split at he
    · rename_i c r2 h2
      simp only [Option.some.injEq, Prod.mk.injEq, Sl.fr.injEq, PyData.bool.injEq] at he
      obtain ⟨rfl, rfl⟩ := he
      refine ⟨F, r, false, r1, wd, h1, fun F1 H1 f w s => ?_⟩
      show tT C K b σ H1 Q
      exact ⟨F1, r1, _, r2, w, h2, fun F2 H2 f2 w2 s2 => q F2 H2 (f.trans f2 fun c k => .inl (s c k)) w2 (fun c k => s c (s2 c k))⟩
    · cases he
  · cases he
theorem core_ch {o p : COp} {a b c : Ex} {Q : VK} (h : tE C K (.ch o p a b c) σ H Q) : tChain (rCmp K o) (rCmp K p) (tE C K a) (tE C K b) (tE C K c) σ H Q := by
  obtain ⟨F, r, w, r', wd, he, q⟩ := h
  simp only [evE] at he
  split at he
  · rename_i x r1 h1
    split at he
    · rename_i y r2 h2
      split at he
      · rename_i d e h3 h4
        split at he
        · rename_i h5
          split at he
          · rename_i z r3 h6
            split at he
            · rename_i e' g h7 h8
              split at he
              · rename_i u h9
                simp only [Option.some.injEq, Prod.mk.injEq] at he
                obtain ⟨rfl, rfl⟩ := he
                refine tE_two wd h1 h2 fun v w F2 H2 f w2 sub p1 p2 _ _ => ⟨F2, d, e, true, w2.le, see_ok w2 p1 h3, see_ok w2 p2 h4, h5, true, rfl, ?_⟩
                rw [if_pos rfl]
                refine ⟨F2, r2, z, r3, w2, h6, fun v3 F3 H3 p3 => ?_⟩
                exact ⟨F3, e', g, u, p3.wd.le, see_ok p3.wd (p2.go p3.fr p3.sub) h7, see_ok p3.wd p3.rp h8, h9, q _ F3 H3 (Pe.same (f.trans p3.fr fun c k => .inl (sub c k)) p3.wd (fun c k => sub c (p3.sub c k)) rfl)⟩
              · cases he
            · cases he
          · cases he
        · rename_i h5
          simp only [Option.some.injEq, Prod.mk.injEq] at he
          obtain ⟨rfl, rfl⟩ := he
          refine tE_two wd h1 h2 fun v w F2 H2 f w2 sub p1 p2 _ _ => ⟨F2, d, e, false, w2.le, see_ok w2 p1 h3, see_ok w2 p2 h4, h5, false, rfl, ?_⟩
          rw [if_neg (by decide)]
          exact q _ F2 H2 (Pe.same f w2 sub rfl)
        · cases he
      · cases he
    · cases he
  · cases he
/-! ### slices -/
def tPO (C : Call) (K : PySem.W.Frag) (e : Ex) : TO := if isNoneE e then tNoPart else tPart (tE C K e)
theorem isNoneE_of {e : Ex} (h : isNoneE e = true) : e = .k .none := by
  unfold isNoneE at h
  split at h
  · rfl
  · cases h
theorem po_step {e : Ex} {y : PyData} {o : Option Int} (wd : Wd K F H r σ) (he : evE C e r = some (.fr y, r1)) (hp : partD e y = some o) {Q : Option Int → Hp → Prop}
    (q : ∀ F1 H1, Fr (Own r σ) F H F1 H1 → Wd K F1 H1 r1 σ → (∀ c, Own r1 σ c → Own r σ c) → Q o H1) : tPO C K e σ H Q := by
  unfold tPO
  unfold partD at hp
  by_cases hn : isNoneE e = true
  · rw [if_pos hn] at hp ⊢
    cases hp
    have := isNoneE_of hn
    subst this
    simp only [evE, Option.some.injEq, Prod.mk.injEq] at he
    obtain ⟨_, rfl⟩ := he
    exact q F H Fr.refl wd (fun _ k => k)
  · rw [if_neg hn] at hp ⊢
    split at hp
    · cases hp
      exact ⟨F, r, _, r1, wd, he, fun v F1 H1 p => ⟨_, p.rp, q F1 H1 p.fr p.wd p.sub⟩⟩
    · cases hp
theorem core_sl {a lo hi : Ex} {Q : VK} (h : tE C K (.sl a lo hi) σ H Q) : tSl (rSlD K) (tE C K a) (tPO C K lo) (tPO C K hi) σ H Q := by
  obtain ⟨F, r, w, r', wd, he, q⟩ := h
  simp only [evE] at he
  split at he
  · rename_i x r1 h1
    split at he
    · rename_i y r2 h2
      split at he
      · rename_i z r3 h3
        split at he
        · rename_i d l hh h4 h5 h6
          split at he
          · rename_i u h7
            simp only [Option.some.injEq, Prod.mk.injEq] at he
            obtain ⟨rfl, rfl⟩ := he
            refine ⟨F, r, x, r1, wd, h1, fun v F1 H1 p => ?_⟩
            refine po_step p.wd h2 h5 fun F2 H2 f2 w2 s2 => ?_
            refine po_step w2 h3 h6 fun F3 H3 f3 w3 s3 => ?_
            have f : Fr (Own r σ) F H F3 H3 := (p.fr.trans f2 fun c k => .inl (p.sub c k)).trans f3 fun c k => .inl (p.sub c (s2 c k))
            exact ⟨F3, d, u, w3.le, see_ok w3 ((p.rp.go f2 s2).go f3 s3) h4, h7, Res.of f w3 (fun c k => p.sub c (s2 c (s3 c k))) q⟩
          · cases he
        · cases he
      · cases he
    · cases he
  · cases he
/-! ### calls -/
theorem core_call {f : Nat} {es : Exs} {Q : VK} (h : tE C K (.call f es) σ H Q) : tCallG (spF C K f) (tEs C K es) σ H Q := by
  obtain ⟨F, r, w, r', wd, he, q⟩ := h
  simp only [evE] at he
  split at he
  · rename_i ws r1 h1
    exact ⟨F, r, ws, r1, wd, h1, fun vs F1 H1 p => call_ok p he q⟩
  · cases he
theorem core_bt {b : Bt} {es : Exs} {Q : VK} (h : tE C K (.bt b es) σ H Q) : tCB (rBt K b) (tEs C K es) σ H Q := by
  obtain ⟨F, r, w, r', wd, he, q⟩ := h
  simp only [evE] at he
  split at he
  · rename_i ws r1 h1
    split at he
    · rename_i ds h2
      split at he
      · rename_i u h3
        simp only [Option.some.injEq, Prod.mk.injEq] at he
        obtain ⟨rfl, rfl⟩ := he
        exact ⟨F, r, ws, r1, wd, h1, fun vs F1 H1 p => ⟨F1, ds, u, p.wd.le, seeL_ok p.wd p.rp h2, h3, Res.of p.fr p.wd p.sub q⟩⟩
      · cases he
    · cases he
  · cases he
theorem core_isi {a : Ex} {ts : List Ty} {Q : VK} (h : tE C K (.isi a ts) σ H Q) : ∃ F r w r', Wd K F H r σ ∧ evE C a r = some (w, r') ∧ ∀ v F1 H1, Pe K F H r σ r' w v F1 H1 → ∃ d, Vw K F1 H1 d v ∧ ∀ F2 H2, Fr noO F1 H1 F2 H2 → Same F2 H2 → Q (.bl (ts.any (isTy d))) H2 := by
  obtain ⟨F, r, w, r', wd, he, q⟩ := h
  simp only [evE] at he
  split at he
  · rename_i x r1 h1
    split at he
    · rename_i d h2
      simp only [Option.some.injEq, Prod.mk.injEq] at he
      obtain ⟨rfl, rfl⟩ := he
      refine ⟨F, r, x, r1, wd, h1, fun v F1 H1 p => ⟨d, see_ok p.wd p.rp h2, fun F2 H2 f le => ?_⟩⟩
      exact q _ F2 H2 (Pe.res p.fr p.wd p.sub f le rfl)
    · cases he
  · cases he
theorem core_mu {m : Mu} {i : Nat} {es : Exs} {Q : VK} (h : tE C K (.mu m i es) σ H Q) : tBM K "list" (rMu K m) (tVar i) (tEs C K es) σ H Q := by
  obtain ⟨F, r, w, r', wd, he, q⟩ := h
  simp only [evE] at he
  split at he
  · rename_i xs0 hr0
    split at he
    · rename_i ws r1 h1
      split at he
      · rename_i xs hr1
        split at he
        · rename_i ds h2
          split at he
          · rename_i y ys h3
            simp only [Option.some.injEq, Prod.mk.injEq] at he
            obtain ⟨rfl, rfl⟩ := he
            obtain ⟨a, e1, z⟩ := wd.sl i _ hr0
            obtain ⟨_, vs0, z1, z2⟩ := z
            refine ⟨.ref a, e1, .inl ⟨rfl, vs0, .inl (.inl z1)⟩, F, r, ws, r1, wd, h1, fun vs F1 H1 p => ?_⟩
            have key : ∀ F2, Fr (Own r σ) F H F2 H1 → Wd K F2 H1 r1 σ → MuArgs K F2 H1 m ds vs → rMu K m (.ref a) vs H1 Q := fun F2 f w2 ag => by
              obtain ⟨b, e2, y0, vs1, y1, y2⟩ := w2.sl i _ hr1
              rw [e1] at e2
              cases e2
              refine ⟨F2, a, xs, vs1, ds, y, ys, rfl, w2.le, y1, y2, ag, h3, fun v us rv ru => ?_⟩
              have w3 : Wd K F2 (upd H1 a (.lst us)) (r1.set i (.ow (.list ys))) σ := w2.write hr1 e1 ⟨y0, us, upd_same, ru⟩
              exact q v F2 _ ⟨f.write (p.sub a ⟨i, _, hr1, e1⟩), w3, fun c k => p.sub c (own_write hr1 k), rv, trivial⟩
            have fz : ∀ {ds'}, fzL ws = some ds' → ∃ F2, Fr (Own r σ) F H F2 H1 ∧ Wd K F2 H1 r1 σ ∧ RpA K F2 ds' vs := fun h => by
              obtain ⟨F2, f, w2, z, s⟩ := freeze p h
              exact ⟨F2, f, w2, z⟩
            cases m with
            | extend => exact key F1 p.fr p.wd (seeL_ok p.wd p.rp h2)
            | append => obtain ⟨F2, f, w2, z⟩ := fz h2; exact key F2 f w2 z
            | pop => obtain ⟨F2, f, w2, z⟩ := fz h2; exact key F2 f w2 z
            | insert => obtain ⟨F2, f, w2, z⟩ := fz h2; exact key F2 f w2 z
            | reverse => obtain ⟨F2, f, w2, z⟩ := fz h2; exact key F2 f w2 z
            | clear => obtain ⟨F2, f, w2, z⟩ := fz h2; exact key F2 f w2 z
          · cases he
        · cases he
      · cases he
    · cases he
  · cases he
/-! ### dict displays -/
def trsOf (C : Call) (K : PySem.W.Frag) : List Cn → Exs → List (TE × TE)
  | c :: cs, .cons e es => (tC c.v, tE C K e) :: trsOf C K cs es
  | _, _ => []
theorem pairs_go : ∀ (ks : List Cn) (es : Exs) {F H : Hp} {r r' : Env} {ws : List Sl} {R : List (V × V) → Hp → Prop}, Wd K F H r σ → evEs C es r = some (ws, r') → ks.length = ws.length →
    (∀ vs F' H', PeL K F H r σ r' ws vs F' H' → R ((ks.map Cn.v).zip vs) H') → tPairs (trsOf C K ks es) σ H R
  | [], .nil, F, H, r, r', ws, R, wd, he, hl, q => by
    simp only [evEs, Option.some.injEq, Prod.mk.injEq] at he
    obtain ⟨rfl, rfl⟩ := he
    exact q [] F H ⟨Fr.refl, wd, fun _ k => k, rfl, by simp [NwL]⟩
  | [], .cons e es, F, H, r, r', ws, R, wd, he, hl, q => by
    simp only [evEs] at he
    split at he
    · split at he
      · simp only [Option.some.injEq, Prod.mk.injEq] at he
        rw [← he.1] at hl
        simp at hl
      · cases he
    · cases he
  | c :: cs, .nil, F, H, r, r', ws, R, wd, he, hl, q => by
    simp only [evEs, Option.some.injEq, Prod.mk.injEq] at he
    rw [← he.1] at hl
    simp at hl
  | c :: cs, .cons e es, F, H, r, r', ws, R, wd, he, hl, q => by
    simp only [evEs] at he
    split at he
    · rename_i x r1 h1
      split at he
      · rename_i ws2 r2 h2
        simp only [Option.some.injEq, Prod.mk.injEq] at he
        obtain ⟨rfl, rfl⟩ := he
        show tC c.v σ H fun k H1 => tE C K e σ H1 fun v H2 => tPairs (trsOf C K cs es) σ H2 fun ps H3 => R ((k, v) :: ps) H3
        refine ⟨F, r, x, r1, wd, h1, fun v F1 H1 p => ?_⟩
        refine pairs_go cs es p.wd h2 (by simpa using hl) fun vs F2 H2 p2 => ?_
        exact q (v :: vs) F2 H2 ⟨p.fr.trans p2.fr fun c k => .inl (p.sub c k), p2.wd, fun c k => p.sub c (p2.sub c k), ⟨v, vs, rfl, p.rp.go p2.fr p2.sub, p2.rp⟩, p.nw, p2.nw.back p.fr p.sub⟩
      · cases he
    · cases he
/-- distinct keys, put one behind another -/
theorem keyD_cn {c : Cn} (h : (keyD c.d).isSome = true) : ∃ q, keyD c.d = some q ∧ c.v = kV q := by
  cases c with
  | int i => exact ⟨.inl i, rfl, rfl⟩
  | str i => exact ⟨.inr i, rfl, rfl⟩
  | none => cases h
  | bool b => cases h
theorem keys_zip : ∀ {ks : List Cn} {vs : List V} {ds : List PyData}, keysOk ks = true → RpA K F ds vs → ks.length = ds.length →
    ∃ kv : List (L2.Key × V), (ks.map Cn.v).zip vs = kv.map (fun p => (kV p.1, p.2)) ∧ kv.length = ks.length ∧ RpK K F ((ks.map Cn.d).zip ds) kv ∧ (∀ p ∈ kv, ∃ c ∈ ks, keyD c.d = some p.1) ∧ (kv.map (·.1)).Nodup
  | [], vs, [], _, h, _ => by
    unfold RpA at h
    subst h
    exact ⟨[], rfl, rfl, by simp [RpK], fun _ m => (by cases m), List.nodup_nil⟩
  | [], vs, d :: ds, _, _, hl => by simp at hl
  | c :: cs, vs, [], _, _, hl => by simp at hl
  | c :: cs, vs, d :: ds, hk, h, hl => by
    unfold RpA at h
    obtain ⟨v, t, rfl, rv, h⟩ := h
    unfold keysOk at hk
    simp only [Bool.and_eq_true, Bool.not_eq_true'] at hk
    obtain ⟨⟨k1, k2⟩, k3⟩ := hk
    obtain ⟨q, e1, e2⟩ := keyD_cn k1
    obtain ⟨kv, z1, z2, z3, z4, z5⟩ := keys_zip k3 h (by simpa using hl)
    refine ⟨(q, v) :: kv, by simp [z1, e2], by simp [z2], ?_, fun p hp => ?_, ?_⟩
    · show RpK K F ((c.d, d) :: (cs.map Cn.d).zip ds) _
      unfold RpK
      exact ⟨q, v, kv, rfl, e1, rv, z3⟩
    · rcases List.mem_cons.mp hp with rfl | hp
      · exact ⟨c, List.mem_cons_self, e1⟩
      · obtain ⟨c', h1, h2⟩ := z4 p hp
        exact ⟨c', List.mem_cons_of_mem _ h1, h2⟩
    · rw [List.map_cons, List.nodup_cons]
      refine ⟨fun m => ?_, z5⟩
      obtain ⟨p, hp, e⟩ := List.mem_map.mp m
      obtain ⟨c', h1, h2⟩ := z4 p hp
      have : (cs.any fun c' => decide (keyD c'.d = keyD c.d)) = true := List.any_eq_true.mpr ⟨c', h1, by rw [decide_eq_true_eq, h2, e1, e]⟩
      rw [k2] at this
      cases this
theorem merge_nodup : ∀ (kv acc : List (L2.Key × V)), ((acc ++ kv).map (·.1)).Nodup → mergeK acc kv = acc ++ kv
  | [], acc, _ => by simp [mergeK]
  | p :: kv, acc, h => by
    have hp : putK acc p.1 p.2 = acc ++ [p] := by
      unfold putK
      rw [if_neg]
      intro z
      obtain ⟨x, hx, e⟩ := List.any_eq_true.mp z
      have e := of_decide_eq_true e
      rw [List.map_append, List.nodup_append] at h
      exact h.2.2 x.1 (List.mem_map.mpr ⟨x, hx, rfl⟩) p.1 (by simp) e
    show mergeK (putK acc p.1 p.2) kv = _
    rw [hp, merge_nodup kv (acc ++ [p]) (by simpa using h)]
    simp
theorem core_dct {ks : List Cn} {es : Exs} {Q : VK} (h : tE C K (.dct ks es) σ H Q) : tDisp (trsOf C K ks es) σ H Q := by
  obtain ⟨F, r, w, r', wd, he, q⟩ := h
  simp only [evE] at he
  split at he
  · rename_i ws r1 h1
    split at he
    · rename_i ds h2
      split at he
      · rename_i hz
        simp only [Option.some.injEq, Prod.mk.injEq] at he
        obtain ⟨rfl, rfl⟩ := he
        intro p hp
        have nO : ¬ Own r σ p := fun k => by
          obtain ⟨_, u, hu⟩ := wd.own k
          rw [hp] at hu; cases hu
        have hF : F p = none := wd.le.free hp
        have w0 : Wd K F (upd H p (.dK [])) r σ := by
          refine ⟨fun b u e => by rw [upd_ne (ne_of_none e hF)]; exact wd.le b u e, wd.len, fun i x h => ?_, wd.inj⟩
          have z := wd.sl i x h
          cases x with
          | no => trivial
          | fr d => exact z
          | ow d =>
            obtain ⟨a, e1, z⟩ := z
            have na : a ≠ p := fun e => nO ⟨i, d, h, e ▸ e1⟩
            exact ⟨a, e1, z.off na⟩
          | lk k => exact z.elim
          | ln k => exact z.elim
          | ex C => exact z
          | rz C => exact z.elim
        have wl : ws.length = ds.length := by
          have go : ∀ {us : List Sl} {es : List PyData}, fzL us = some es → us.length = es.length := by
            intro us
            induction us with
            | nil => intro es e; cases e; rfl
            | cons u us ih =>
              intro es e
              unfold fzL at e
              split at e
              · rename_i h1 h2
                cases e
                rw [List.length_cons, List.length_cons, ih h2]
              · cases e
          exact go h2
        refine pairs_go ks es w0 h1 (by rw [wl]; exact hz.1) fun vs F1 H1 pe => ?_
        obtain ⟨F2, f, w2, z, s⟩ := freeze pe h2
        have at2 : F2 p = none ∧ H1 p = some (.dK []) := by
          refine ⟨?_, f.hh p _ upd_same nO⟩
          cases k : F2 p with
          | none => rfl
          | some u =>
            rcases f.new p u k with y | ⟨_, y⟩
            · rw [hF] at y; cases y
            · rcases y with y | y
              · exact (nO y).elim
              · rw [upd_same] at y; cases y
        obtain ⟨kv, z1, z2, z3, z4, z5⟩ := keys_zip hz.2.2 z hz.1
        refine ⟨at2.2, kv, z1, by rw [z2]; exact hz.2.1, ?_⟩
        rw [merge_nodup kv [] (by simpa using z5), List.nil_append]
        have nO2 : ¬ Own r1 σ p := fun k => nO (pe.sub p k)
        refine q (.ref p) F2 _ ⟨⟨f.ff, fun a o e => ?_, fun a o e n => ?_⟩, ?_, pe.sub, ⟨p, rfl, ⟨at2.1, .inl ⟨kv, upd_same, z3⟩⟩, nO2⟩, fun a e => ?_⟩
        · rcases f.new a o e with y | ⟨y1, y2⟩
          · exact .inl y
          · refine .inr ⟨y1, y2.imp id fun y => ?_⟩
            by_cases hap : a = p
            · rw [hap]; exact hp
            · rw [upd_ne hap] at y; exact y
        · have nap : a ≠ p := fun z => by rw [z, hp] at e; cases e
          rw [upd_ne nap]
          exact f.hh a o (by rw [upd_ne nap]; exact e) n
        · refine ⟨fun b u e => by rw [upd_ne (ne_of_none e at2.1)]; exact w2.le b u e, w2.len, fun i x h => ?_, w2.inj⟩
          have z := w2.sl i x h
          cases x with
          | no => trivial
          | fr d => exact z
          | ow d =>
            obtain ⟨a, e1, z⟩ := z
            have na : a ≠ p := fun e => nO2 ⟨i, d, h, e ▸ e1⟩
            exact ⟨a, e1, z.off na⟩
          | lk k => exact z.elim
          | ln k => exact z.elim
          | ex C => exact z
          | rz C => exact z.elim
        · cases e
          exact .inl hp
      · cases he
    · cases he
  · cases he
/-- an empty dict -/
theorem core_dct0 {Q : VK} (h : tE C K (.dct [] .nil) σ H Q) : tDNewK σ H Q := by
  obtain ⟨F, r, w, r', wd, he, q⟩ := h
  simp only [evE, evEs, fzL] at he
  simp [keysOk] at he
  obtain ⟨rfl, rfl⟩ := he
  intro p hp
  have nO : ¬ Own r σ p := fun k => by
    obtain ⟨_, u, hu⟩ := wd.own k
    rw [hp] at hu; cases hu
  have hF : F p = none := wd.le.free hp
  refine q (.ref p) F _ (Pe.res Fr.refl wd (fun _ k => k) (Fr.refl.up hp) (wd.le.trans (same_up hp)) ⟨p, rfl, ⟨hF, .inl ⟨[], upd_same, by simp [RpK]⟩⟩, hp⟩)
/-- a dict of one key that is reckoned -/
theorem core_dk {k e : Ex} {Q : VK} (h : tE C K (.dk k e) σ H Q) : tDisp [(tE C K k, tE C K e)] σ H Q := by
  obtain ⟨F, r, w, r', wd, he, q⟩ := h
  simp only [evE] at he
  split at he
  · rename_i kd r1 h1
    split at he
    · rename_i u r2 h2
      split at he
      · rename_i d h3
        split at he
        · rename_i qk h4
          simp only [Option.some.injEq, Prod.mk.injEq] at he
          obtain ⟨rfl, rfl⟩ := he
          intro p hp
          have nO : ¬ Own r σ p := fun k => by
            obtain ⟨_, u, hu⟩ := wd.own k
            rw [hp] at hu; cases hu
          have hF : F p = none := wd.le.free hp
          have w0 : Wd K F (upd H p (.dK [])) r σ := by
            refine ⟨fun b u e => by rw [upd_ne (ne_of_none e hF)]; exact wd.le b u e, wd.len, fun i x h => ?_, wd.inj⟩
            have z := wd.sl i x h
            cases x with
            | no => trivial
            | fr d => exact z
            | ow d =>
              obtain ⟨a, e1, z⟩ := z
              have na : a ≠ p := fun e => nO ⟨i, d, h, e ▸ e1⟩
              exact ⟨a, e1, z.off na⟩
            | lk k => exact z.elim
            | ln k => exact z.elim
            | ex C => exact z
            | rz C => exact z.elim
          refine ⟨F, r, _, r1, w0, h1, fun v1 F1 H1 p1 => ?_⟩
          refine ⟨F1, r1, u, r2, p1.wd, h2, fun v2 F2 H2 p2 => ?_⟩
          have pe : Pe K F (upd H p (.dK [])) r σ r2 u v2 F2 H2 := ⟨p1.fr.trans p2.fr fun c k => .inl (p1.sub c k), p2.wd, fun c k => p1.sub c (p2.sub c k), p2.rp, p2.nw.back p1.fr p1.sub⟩
          have rk : Rp K F2 kd v1 := Rp.mono p2.fr.ff _ _ p1.rp
          obtain ⟨F3, f, w2, z, s⟩ := freeze1 pe h3
          have at2 : F3 p = none ∧ H2 p = some (.dK []) := by
            refine ⟨?_, f.hh p _ upd_same nO⟩
            cases k : F3 p with
            | none => rfl
            | some u =>
              rcases f.new p u k with y | ⟨_, y⟩
              · rw [hF] at y; cases y
              · rcases y with y | y
                · exact (nO y).elim
                · rw [upd_same] at y; cases y
          have ek : v1 = kV qk := keyD_kV h4 rk
          show H2 p = some (.dK []) ∧ _
          refine ⟨at2.2, [(qk, v2)], by rw [ek]; rfl, by show 1 ≤ 15; decide, ?_⟩
          have em : mergeK [] [(qk, v2)] = [(qk, v2)] := rfl
          rw [em]
          have nO2 : ¬ Own r2 σ p := fun k => nO (pe.sub p k)
          have z3 : RpK K F3 [(kd, d)] [(qk, v2)] := by
            unfold RpK
            exact ⟨qk, v2, [], rfl, h4, z, by simp [RpK]⟩
          refine q (.ref p) F3 _ ⟨⟨f.ff, fun a o e => ?_, fun a o e n => ?_⟩, ?_, pe.sub, ⟨p, rfl, ⟨at2.1, .inl ⟨_, upd_same, z3⟩⟩, nO2⟩, fun a e => ?_⟩
          · rcases f.new a o e with y | ⟨y1, y2⟩
            · exact .inl y
            · refine .inr ⟨y1, y2.imp id fun y => ?_⟩
              by_cases hap : a = p
              · rw [hap]; exact hp
              · rw [upd_ne hap] at y; exact y
          · have nap : a ≠ p := fun z => by rw [z, hp] at e; cases e
            rw [upd_ne nap]
            exact f.hh a o (by rw [upd_ne nap]; exact e) n
          · refine ⟨fun b u e => by rw [upd_ne (ne_of_none e at2.1)]; exact w2.le b u e, w2.len, fun i x h => ?_, w2.inj⟩
            have z := w2.sl i x h
            cases x with
            | no => trivial
            | fr d => exact z
            | ow d =>
              obtain ⟨a, e1, z⟩ := z
              have na : a ≠ p := fun e => nO2 ⟨i, d, h, e ▸ e1⟩
              exact ⟨a, e1, z.off na⟩
            | lk k => exact z.elim
            | ln k => exact z.elim
            | ex C => exact z
            | rz C => exact z.elim
          · cases e
            exact .inl hp
        · cases he
      · cases he
    · cases he
  · cases he
end
end Bx

set_option Elab.async false
set_option linter.all false
set_option maxRecDepth 100000
set_option autoImplicit false
set_option maxHeartbeats 4000000
/-! zip over two or three lists and tuples, in any mix. -/
namespace Bx
open PySem PySem.Spec PyProof.Rows L2

inductive Kd where | l | t
/-- a sequence of its kind -/
def Kd.sq (k : Kd) (K : PySem.W.Frag) (H : Hp) (a : Addr) (xs : List V) : Prop := match k with
  | .l => SqL K H a xs
  | .t => SqT K H a xs
def Kd.it (k : Kd) (it a : Addr) (i : Nat) (h : Heap) : Prop := match k with
  | .l => h.IsListIter it a i
  | .t => h.IsTupleIter it a i
def Kd.is (k : Kd) (h : Heap) (a : Addr) (its : Array Value) : Prop := match k with
  | .l => h.IsList a its
  | .t => h.IsTuple a its
def Kd.ob (k : Kd) (a : Addr) : Obj := match k with
  | .l => { cls := .type "list_iterator", data := .fields #[.ref a, .int 0 0] }
  | .t => { cls := .type "tuple_iterator", data := .fields #[.ref a, .int 0 0] }
theorem Kd.begins (k : Kd) (a : Addr) (its : Array Value) : PySem.Begins (.ref a) (k.ob a) fun h => k.is h a its := by
  cases k
  · exact PySem.begins_list a its
  · exact PySem.begins_tuple a its
theorem Kd.first (k : Kd) {it a : Addr} {h : Heap} (e : h.get? it = some (k.ob a)) : k.it it a 0 h := by
  cases k
  · exact ⟨_, e, rfl, rfl⟩
  · exact ⟨_, e, rfl, rfl⟩
theorem Kd.draws (k : Kd) {prog : Program} {w : World} {A : Around} (hh : A.handled = none) (it a : Addr) (hne : a ≠ it) (its : Array Value) :
    PySem.Draws prog w A it [it, a] its.size (fun i v => its[i]? = some v) (fun i h => k.it it a i h ∧ k.is h a its) := by
  cases k
  · exact PySem.Draws.list hh it a hne its
  · exact PySem.Draws.tuple hh it a hne its
theorem Kd.at (k : Kd) {it a : Addr} {i : Nat} {h h' : Heap} (x : k.it it a i h) (hk : ∀ o, h.get? it = some o → h'.get? it = some o) : k.it it a i h' := by
  cases k
  · exact Heap.IsListIter.at x hk
  · exact Heap.IsTupleIter.at x hk
theorem Kd.obj (k : Kd) {it a : Addr} {i : Nat} {h : Heap} (x : k.it it a i h) : ∃ o, h.get? it = some o ∧ ∀ v, o.data ≠ .cell v := by
  cases k
  · obtain ⟨o, e, c, d⟩ := x
    exact ⟨o, e, fun v z => by rw [d] at z; cases z⟩
  · obtain ⟨o, e, c, d⟩ := x
    exact ⟨o, e, fun v z => by rw [d] at z; cases z⟩
section
variable {X : Cx} {pins : List (Addr × Obj)} {σ : SG} {H : Hp} {s : Shared}
theorem Kd.of (k : Kd) {a : Addr} {xs : List V} (I : Inv X pins σ H s) (h : k.sq X.K H a xs) : ∃ its : List Value, Vals xs its ∧ k.is s.heap a its.toArray ∧ a < s.heap.objs.size := by
  cases k
  · obtain ⟨its, rv, p, _⟩ := I.list h
    exact ⟨its, rv, p.isList, p.lt⟩
  · obtain ⟨its, rv, p, _⟩ := I.tuple h
    obtain ⟨o, ho, _⟩ := id p
    exact ⟨its, rv, p, Heap.lt_size ho⟩
theorem Kd.inj (k : Kd) {a : Addr} {xs ys : List V} (I : Inv X pins σ H s) (h : k.sq X.K H a xs) (h' : k.sq X.K H a ys) : xs = ys := by
  cases k
  · exact I.list_inj h h'
  · exact I.tuple_inj h h'
end
/-- two sequences, item by item -/
def Iz2 (K : PySem.W.Frag) (k1 k2 : Kd) (a b : Addr) : L2.It :=
  ⟨fun i H => ∃ (xs ys : List V) (x y : V), k1.sq K H a xs ∧ k2.sq K H b ys ∧ xs[i]? = some x ∧ ys[i]? = some y,
    fun i H v H' => ∃ T x y, v = .ref T ∧ H T = none ∧ H' = upd H T (.tup [x, y]) ∧ (∀ xs, k1.sq K H a xs → xs[i]? = some x) ∧ ∀ ys, k2.sq K H b ys → ys[i]? = some y,
    fun i H => ∃ xs ys : List V, k1.sq K H a xs ∧ k2.sq K H b ys ∧ min xs.length ys.length = i⟩
theorem turn_z2 {P : Program} {w : World} {K : PySem.W.Frag} {elts : List Expr} {kk : Nat} {tpos : Pos} {k1 k2 : Kd} {a b z TI TO i1 i2 : Addr} (S : PySem.ZipSep2 z TI TO i1 i2 [i1, a] [i2, b]) (n1 : a ≠ i1) (n2 : b ≠ i2) :
    Turn P w K (.Tuple elts kk tpos) (Iz2 K k1 k2 a b) [z, TI, TO, i1, i2] z (fun i h => IsZip h z TI TO .none ∧ PySem.IsTupOf2 h TI (.ref i1) (.ref i2) ∧ (∃ x y, PySem.IsTupOf2 h TO x y) ∧ k1.it i1 a i h ∧ k2.it i2 b i h) where
  mem := by simp
  obj := fun i h st c hc => by
    obtain ⟨hz, hTI, ⟨x, y, hTO⟩, h1, h2⟩ := st
    have e' : c = z ∨ c = TI ∨ c = TO ∨ c = i1 ∨ c = i2 := by simpa using hc
    rcases e' with q | q | q | q | q
    · rw [q]; exact ⟨_, hz, fun v q => nomatch q⟩
    · rw [q]; exact ⟨_, hTI, fun v q => nomatch q⟩
    · rw [q]; exact ⟨_, hTO, fun v q => nomatch q⟩
    · rw [q]; exact k1.obj h1
    · rw [q]; exact k2.obj h2
  keep := fun i h h' st k => by
    obtain ⟨hz, hTI, ⟨x, y, hTO⟩, h1, h2⟩ := st
    exact ⟨k z (by simp) _ hz, k TI (by simp) _ hTI, ⟨x, y, k TO (by simp) _ hTO⟩, k1.at h1 fun o q => k i1 (by simp) o q, k2.at h2 fun o q => k i2 (by simp) o q⟩
  item := by
    intro X hP hw hK hc i pins s σ H E I hf st hg
    subst hP hw hK
    obtain ⟨hz, hTI, hTO, h1, h2⟩ := st
    obtain ⟨xs, ys, x, y, hqx, hqy, hx, hy⟩ := hg
    obtain ⟨its, rv, p, _⟩ := k1.of I hqx
    obtain ⟨its2, rv2, p2, _⟩ := k2.of I hqy
    obtain ⟨u, hu, ru⟩ := rv.get hx
    obtain ⟨u2, hu2, ru2⟩ := rv2.get hy
    have hh : X.A.in1.handled = none := I.ok.hd hc
    have W := PySem.WalksT.zipD2 (prog := X.prog) (w := X.w) S (k1.draws hh i1 a n1 its.toArray) (k2.draws hh i2 b n2 its2.toArray)
    have l1 : i < its.length := (List.getElem?_eq_some_iff.mp hu).1
    have l2 : i < its2.length := (List.getElem?_eq_some_iff.mp hu2).1
    refine W.item i s _ E (by simp only [List.size_toArray]; omega) ⟨hz, hTI, hTO, ⟨h1, p⟩, ⟨h2, p2⟩⟩ fun T vals h' tk pv hT tT mid kp => ?_
    obtain ⟨x1, x2, q1, q2, rfl⟩ := pv
    have e1 : x1 = u := by
      have z : its[i]? = some x1 := by simpa using q1
      rw [hu] at z
      exact (Option.some.inj z).symm
    have e2 : x2 = u2 := by
      have z : its2[i]? = some x2 := by simpa using q2
      rw [hu2] at z
      exact (Option.some.inj z).symm
    subst e1 e2
    refine ⟨_, rfl, W.go elts kk tpos i T { s with heap := h', toks := tk } _ E mid fun h'' st'' kp2 => ?_⟩
    have tT2 : h''.IsTuple T #[x1, x2] := tT.at fun o e => kp2 T o (W.apart i T h' mid) e
    have sub : ∀ c, c ∉ [z, TI, TO, i1, i2] → c ∉ [z, TO, i1, i2] := fun c hc m => hc (by
      simp only [List.mem_cons, List.not_mem_nil, or_false] at m ⊢
      rcases m with m | m | m | m
      · exact .inl m
      · exact .inr (.inr (.inl m))
      · exact .inr (.inr (.inr (.inl m)))
      · exact .inr (.inr (.inr (.inr m))))
    have new : ObjOk X.prog X.w (upd H T (.tup [x, y])) h'' T (.tup [x, y]) := ⟨by show 2 ≤ sizeLine; decide, [x1, x2], .cons ru (.cons ru2 .nil), tT2⟩
    have I1 : Inv X pins σ (upd H T (.tup [x, y])) { s with heap := h'', toks := tk } :=
      I.turnedNew (ch := [z, TI, TO, i1, i2]) (fun c o hb q => kp2 c o (sub c hb) (kp c o (sub c hb) q)) hf hT new
    obtain ⟨hz', hTI', hTO', s1, s2⟩ := st''
    refine ⟨.ref T, _, I1, rfl, ⟨T, x, y, rfl, I.hok.fresh hT, rfl, fun l hl => by rw [k1.inj I hl hqx]; exact hx, fun l hl => by rw [k2.inj I hl hqy]; exact hy⟩, ⟨hz', hTI', hTO', s1.1, s2.1⟩, fun c hcm => ?_⟩
    have hcs : c < s.heap.objs.size := by
      have live : ∃ o, s.heap.get? c = some o := by
        have e' : c = z ∨ c = TI ∨ c = TO ∨ c = i1 ∨ c = i2 := by simpa using hcm
        obtain ⟨_, _, hTO⟩ := hTO
        rcases e' with q | q | q | q | q
        · rw [q]; exact ⟨_, hz⟩
        · rw [q]; exact ⟨_, hTI⟩
        · rw [q]; exact ⟨_, hTO⟩
        · rw [q]; obtain ⟨o, e, _⟩ := k1.obj h1; exact ⟨o, e⟩
        · rw [q]; obtain ⟨o, e, _⟩ := k2.obj h2; exact ⟨o, e⟩
      obtain ⟨o, e⟩ := live
      exact Heap.lt_size e
    rw [upd_ne (Nat.ne_of_lt (Nat.lt_of_lt_of_le hcs hT))]
    exact (hf c hcm).1
  done := by
    intro X hP hw hK hc i pins s σ H E I hf st hg
    subst hP hw hK
    obtain ⟨hz, hTI, hTO, h1, h2⟩ := st
    obtain ⟨xs, ys, hqx, hqy, hend⟩ := hg
    obtain ⟨its, rv, p, _⟩ := k1.of I hqx
    obtain ⟨its2, rv2, p2, _⟩ := k2.of I hqy
    have hh : X.A.in1.handled = none := I.ok.hd hc
    have W := PySem.WalksT.zipD2 (prog := X.prog) (w := X.w) S (k1.draws hh i1 a n1 its.toArray) (k2.draws hh i2 b n2 its2.toArray)
    have e : min its.toArray.size its2.toArray.size = i := by simp only [List.size_toArray]; rw [← rv.length, ← rv2.length]; exact hend
    refine W.done s _ E (by rw [e]; exact ⟨hz, hTI, hTO, ⟨h1, p⟩, ⟨h2, p2⟩⟩) fun h' tk kp => ⟨rfl, I.turnedL (ch := [z, TI, TO, i1, i2]) (fun c o hb q => kp c o (fun m => hb ?_) q) hf⟩
    simp only [List.mem_cons, List.not_mem_nil, or_false] at m ⊢
    rcases m with m | m | m | m
    · exact .inl m
    · exact .inr (.inr (.inl m))
    · exact .inr (.inr (.inr (.inl m)))
    · exact .inr (.inr (.inr (.inr m)))
  self := fun A i s Q E st h => wpAny_pyIter_zip st.1 h
theorem sep2 {n a b : Nat} (ha : a < n) (hb : b < n) : PySem.ZipSep2 (n + 4) (n + 2) (n + 3) n (n + 1) [n, a] [n + 1, b] := by
  have ne : ∀ {x y : Nat}, x < y → ¬ y = x := fun h e => Nat.lt_irrefl _ (e ▸ h)
  refine ⟨?_, ?_, ?_, ?_, ?_, ?_, ?_, ?_, ?_, ?_, ?_, ?_, ?_⟩ <;> simp only [List.mem_cons, List.not_mem_nil, or_false, not_or, ne_eq, true_or, or_true] <;>
    first | trivial | (show ¬ (_ : Nat) = _; omega) | (refine ⟨?_, ?_⟩ <;> (show ¬ (_ : Nat) = _; omega))
def iZ2 (K : PySem.W.Frag) (ta : TA) : TI := fun σ H R => ta σ H fun vs H1 => ∃ a b xs ys k1 k2, vs = [.ref a, .ref b] ∧ Kd.sq k1 K H1 a xs ∧ Kd.sq k2 K H1 b ys ∧ R (Iz2 K k1 k2 a b) H1
theorem pi_z2 {X : Cx} {e e2 : Expr} {ta : TA} {p pos tpos : Pos} {elts : List Expr} {kk : Nat} (hg : Gl X "zip") (hm : X.mg "zip" = none) (ha : PA X [e, e2] ta)
    (hs : starEach [e, e2] X.env = (false, eval e X.env) :: starEach [e2] X.env) (hpl : (backTo pos (starEach [e2] X.env)).any (·.1) = false) :
    PI X (.Tuple elts kk tpos) (.Call (.Name "zip" p) [e, e2] [] pos) (iZ2 X.K ta) := by
  refine ⟨fun pins s σ H R I h => ?_⟩
  refine Call_ (ld_blt I hg hm PyProof.Rows.boot_zip (PyProof.Rows.callWith_type1 (thn (ha.run pos pins s σ H _ I h) fun us s1 ⟨vs, H1, I1, r1, q1⟩ => ?_) hs hpl))
  obtain ⟨a, b, xs, ys, k1, k2, rfl, hqx, hqy, q⟩ := q1
  obtain ⟨u1, u2, rfl, ra, rb⟩ := vals2 r1
  cases (show u1 = Value.ref a from ra)
  cases (show u2 = Value.ref b from rb)
  obtain ⟨its, rv, p1, la⟩ := k1.of I1 hqx
  obtain ⟨its2, rv2, p2, lb⟩ := k2.of I1 hqy
  refine PySem.zip_begins2 (k1.begins a its.toArray) (k2.begins b its2.toArray) p1 p2 fun h' hz hTI hTO o1 o2 hsz hk => wpAny_pyIter_zip hz ?_
  have I2 : Inv X pins σ H1 { s1 with heap := h' } := I1.kept (t' := s1.toks) hk
  refine ⟨s1.heap.objs.size + 4, [s1.heap.objs.size + 4, s1.heap.objs.size + 2, s1.heap.objs.size + 3, s1.heap.objs.size, s1.heap.objs.size + 1], _, _, H1, rfl, I2, turn_z2 (sep2 la lb) (Nat.ne_of_lt la) (Nat.ne_of_lt (Nat.lt_succ_of_lt lb)), ⟨hz, hTI, ⟨_, _, hTO⟩, k1.first o1, k2.first o2⟩, fun c hcm => ?_, q⟩
  have hle : s1.heap.objs.size ≤ c := by
    simp only [List.mem_cons, List.not_mem_nil, or_false] at hcm
    rcases hcm with z | z | z | z | z
    · rw [z]; exact Nat.le_add_right _ _
    · rw [z]; exact Nat.le_add_right _ _
    · rw [z]; exact Nat.le_add_right _ _
    · rw [z]; exact Nat.le_refl _
    · rw [z]; exact Nat.le_add_right _ _
  exact I1.fpOk hle (I1.hok.fresh hle)
/-- three sequences -/
def Iz3 (K : PySem.W.Frag) (k1 k2 k3 : Kd) (a b c : Addr) : L2.It :=
  ⟨fun i H => ∃ (xs ys zs : List V) (x y z : V), k1.sq K H a xs ∧ k2.sq K H b ys ∧ k3.sq K H c zs ∧ xs[i]? = some x ∧ ys[i]? = some y ∧ zs[i]? = some z,
    fun i H v H' => ∃ T x y z, v = .ref T ∧ H T = none ∧ H' = upd H T (.tup [x, y, z]) ∧ (∀ xs, k1.sq K H a xs → xs[i]? = some x) ∧ (∀ ys, k2.sq K H b ys → ys[i]? = some y) ∧ ∀ zs, k3.sq K H c zs → zs[i]? = some z,
    fun i H => ∃ xs ys zs : List V, k1.sq K H a xs ∧ k2.sq K H b ys ∧ k3.sq K H c zs ∧ min (min xs.length ys.length) zs.length = i⟩
theorem turn_z3 {P : Program} {w : World} {K : PySem.W.Frag} {elts : List Expr} {kk : Nat} {tpos : Pos} {k1 k2 k3 : Kd} {a b c z TI TO i1 i2 i3 : Addr} (S : PySem.ZipSep3 z TI TO i1 i2 i3 [i1, a] [i2, b] [i3, c]) (n1 : a ≠ i1) (n2 : b ≠ i2) (n3 : c ≠ i3) :
    Turn P w K (.Tuple elts kk tpos) (Iz3 K k1 k2 k3 a b c) [z, TI, TO, i1, i2, i3] z (fun i h => IsZip h z TI TO .none ∧ PySem.IsTupOf3 h TI (.ref i1) (.ref i2) (.ref i3) ∧ (∃ x y v, PySem.IsTupOf3 h TO x y v) ∧ k1.it i1 a i h ∧ k2.it i2 b i h ∧ k3.it i3 c i h) where
  mem := by simp
  obj := fun i h st d hd => by
    obtain ⟨hz, hTI, ⟨x, y, v, hTO⟩, h1, h2, h3⟩ := st
    have e' : d = z ∨ d = TI ∨ d = TO ∨ d = i1 ∨ d = i2 ∨ d = i3 := by simpa using hd
    rcases e' with q | q | q | q | q | q
    · rw [q]; exact ⟨_, hz, fun v q => nomatch q⟩
    · rw [q]; exact ⟨_, hTI, fun v q => nomatch q⟩
    · rw [q]; exact ⟨_, hTO, fun v q => nomatch q⟩
    · rw [q]; exact k1.obj h1
    · rw [q]; exact k2.obj h2
    · rw [q]; exact k3.obj h3
  keep := fun i h h' st k => by
    obtain ⟨hz, hTI, ⟨x, y, v, hTO⟩, h1, h2, h3⟩ := st
    exact ⟨k z (by simp) _ hz, k TI (by simp) _ hTI, ⟨x, y, v, k TO (by simp) _ hTO⟩, k1.at h1 fun o q => k i1 (by simp) o q, k2.at h2 fun o q => k i2 (by simp) o q, k3.at h3 fun o q => k i3 (by simp) o q⟩
  item := by
    intro X hP hw hK hc i pins s σ H E I hf st hg
    subst hP hw hK
    obtain ⟨hz, hTI, hTO, h1, h2, h3⟩ := st
    obtain ⟨xs, ys, zs, x, y, v, hqx, hqy, hqz, hx, hy, hv⟩ := hg
    obtain ⟨its, rv, p, _⟩ := k1.of I hqx
    obtain ⟨its2, rv2, p2, _⟩ := k2.of I hqy
    obtain ⟨its3, rv3, p3, _⟩ := k3.of I hqz
    obtain ⟨u, hu, ru⟩ := rv.get hx
    obtain ⟨u2, hu2, ru2⟩ := rv2.get hy
    obtain ⟨u3, hu3, ru3⟩ := rv3.get hv
    have hh : X.A.in1.handled = none := I.ok.hd hc
    have W := PySem.WalksT.zipD3 (prog := X.prog) (w := X.w) S (k1.draws hh i1 a n1 its.toArray) (k2.draws hh i2 b n2 its2.toArray) (k3.draws hh i3 c n3 its3.toArray)
    have l1 : i < its.length := (List.getElem?_eq_some_iff.mp hu).1
    have l2 : i < its2.length := (List.getElem?_eq_some_iff.mp hu2).1
    have l3 : i < its3.length := (List.getElem?_eq_some_iff.mp hu3).1
    refine W.item i s _ E (by simp only [List.size_toArray]; omega) ⟨hz, hTI, hTO, ⟨h1, p⟩, ⟨h2, p2⟩, ⟨h3, p3⟩⟩ fun T vals h' tk pv hT tT mid kp => ?_
    obtain ⟨x1, x2, x3, q1, q2, q3, rfl⟩ := pv
    have e1 : x1 = u := by
      have z : its[i]? = some x1 := by simpa using q1
      rw [hu] at z
      exact (Option.some.inj z).symm
    have e2 : x2 = u2 := by
      have z : its2[i]? = some x2 := by simpa using q2
      rw [hu2] at z
      exact (Option.some.inj z).symm
    have e3 : x3 = u3 := by
      have z : its3[i]? = some x3 := by simpa using q3
      rw [hu3] at z
      exact (Option.some.inj z).symm
    subst e1 e2 e3
    refine ⟨_, rfl, W.go elts kk tpos i T { s with heap := h', toks := tk } _ E mid fun h'' st'' kp2 => ?_⟩
    have tT2 : h''.IsTuple T #[x1, x2, x3] := tT.at fun o e => kp2 T o (W.apart i T h' mid) e
    have sub : ∀ d, d ∉ [z, TI, TO, i1, i2, i3] → d ∉ [z, TO, i1, i2, i3] := fun d hd m => hd (by
      simp only [List.mem_cons, List.not_mem_nil, or_false] at m ⊢
      rcases m with m | m | m | m | m
      · exact .inl m
      · exact .inr (.inr (.inl m))
      · exact .inr (.inr (.inr (.inl m)))
      · exact .inr (.inr (.inr (.inr (.inl m))))
      · exact .inr (.inr (.inr (.inr (.inr m)))))
    have new : ObjOk X.prog X.w (upd H T (.tup [x, y, v])) h'' T (.tup [x, y, v]) := ⟨by show 3 ≤ sizeLine; decide, [x1, x2, x3], .cons ru (.cons ru2 (.cons ru3 .nil)), tT2⟩
    have I1 : Inv X pins σ (upd H T (.tup [x, y, v])) { s with heap := h'', toks := tk } :=
      I.turnedNew (ch := [z, TI, TO, i1, i2, i3]) (fun d o hb q => kp2 d o (sub d hb) (kp d o (sub d hb) q)) hf hT new
    obtain ⟨hz', hTI', hTO', s1, s2, s3⟩ := st''
    refine ⟨.ref T, _, I1, rfl, ⟨T, x, y, v, rfl, I.hok.fresh hT, rfl, fun l hl => by rw [k1.inj I hl hqx]; exact hx, fun l hl => by rw [k2.inj I hl hqy]; exact hy, fun l hl => by rw [k3.inj I hl hqz]; exact hv⟩, ⟨hz', hTI', hTO', s1.1, s2.1, s3.1⟩, fun d hdm => ?_⟩
    have hcs : d < s.heap.objs.size := by
      have live : ∃ o, s.heap.get? d = some o := by
        have e' : d = z ∨ d = TI ∨ d = TO ∨ d = i1 ∨ d = i2 ∨ d = i3 := by simpa using hdm
        obtain ⟨_, _, _, hTO⟩ := hTO
        rcases e' with q | q | q | q | q | q
        · rw [q]; exact ⟨_, hz⟩
        · rw [q]; exact ⟨_, hTI⟩
        · rw [q]; exact ⟨_, hTO⟩
        · rw [q]; obtain ⟨o, e, _⟩ := k1.obj h1; exact ⟨o, e⟩
        · rw [q]; obtain ⟨o, e, _⟩ := k2.obj h2; exact ⟨o, e⟩
        · rw [q]; obtain ⟨o, e, _⟩ := k3.obj h3; exact ⟨o, e⟩
      obtain ⟨o, e⟩ := live
      exact Heap.lt_size e
    rw [upd_ne (Nat.ne_of_lt (Nat.lt_of_lt_of_le hcs hT))]
    exact (hf d hdm).1
  done := by
    intro X hP hw hK hc i pins s σ H E I hf st hg
    subst hP hw hK
    obtain ⟨hz, hTI, hTO, h1, h2, h3⟩ := st
    obtain ⟨xs, ys, zs, hqx, hqy, hqz, hend⟩ := hg
    obtain ⟨its, rv, p, _⟩ := k1.of I hqx
    obtain ⟨its2, rv2, p2, _⟩ := k2.of I hqy
    obtain ⟨its3, rv3, p3, _⟩ := k3.of I hqz
    have hh : X.A.in1.handled = none := I.ok.hd hc
    have W := PySem.WalksT.zipD3 (prog := X.prog) (w := X.w) S (k1.draws hh i1 a n1 its.toArray) (k2.draws hh i2 b n2 its2.toArray) (k3.draws hh i3 c n3 its3.toArray)
    have e : min (min its.toArray.size its2.toArray.size) its3.toArray.size = i := by simp only [List.size_toArray]; rw [← rv.length, ← rv2.length, ← rv3.length]; exact hend
    refine W.done s _ E (by rw [e]; exact ⟨hz, hTI, hTO, ⟨h1, p⟩, ⟨h2, p2⟩, ⟨h3, p3⟩⟩) fun h' tk kp => ⟨rfl, I.turnedL (ch := [z, TI, TO, i1, i2, i3]) (fun d o hb q => kp d o (fun m => hb ?_) q) hf⟩
    simp only [List.mem_cons, List.not_mem_nil, or_false] at m ⊢
    rcases m with m | m | m | m | m
    · exact .inl m
    · exact .inr (.inr (.inl m))
    · exact .inr (.inr (.inr (.inl m)))
    · exact .inr (.inr (.inr (.inr (.inl m))))
    · exact .inr (.inr (.inr (.inr (.inr m))))
  self := fun A i s Q E st h => wpAny_pyIter_zip st.1 h
theorem sep3 {n a b c : Nat} (ha : a < n) (hb : b < n) (hc : c < n) : PySem.ZipSep3 (n + 5) (n + 3) (n + 4) n (n + 1) (n + 2) [n, a] [n + 1, b] [n + 2, c] := by
  refine ⟨?_, ?_, ?_, ?_, ?_, ?_, ?_, ?_, ?_, ?_, ?_, ?_, ?_, ?_, ?_, ?_, ?_, ?_, ?_, ?_, ?_⟩ <;> simp only [List.mem_cons, List.not_mem_nil, or_false, not_or, ne_eq, true_or, or_true] <;>
    first | trivial | (show ¬ (_ : Nat) = _; omega) | (refine ⟨?_, ?_⟩ <;> (show ¬ (_ : Nat) = _; omega))
def iZ3 (K : PySem.W.Frag) (ta : TA) : TI := fun σ H R => ta σ H fun vs H1 => ∃ a b c xs ys zs k1 k2 k3, vs = [.ref a, .ref b, .ref c] ∧ Kd.sq k1 K H1 a xs ∧ Kd.sq k2 K H1 b ys ∧ Kd.sq k3 K H1 c zs ∧ R (Iz3 K k1 k2 k3 a b c) H1
theorem vals3 {x y z : V} {us : List Value} (r : Vals [x, y, z] us) : ∃ u1 u2 u3, us = [u1, u2, u3] ∧ RelV x u1 ∧ RelV y u2 ∧ RelV z u3 := by
  cases r with
  | cons r1 r =>
    cases r with
    | cons r2 r =>
      cases r with
      | cons r3 r =>
        cases r
        exact ⟨_, _, _, rfl, r1, r2, r3⟩
theorem pi_z3 {X : Cx} {e e2 e3 : Expr} {ta : TA} {p pos tpos : Pos} {elts : List Expr} {kk : Nat} (hg : Gl X "zip") (hm : X.mg "zip" = none) (ha : PA X [e, e2, e3] ta)
    (hs : starEach [e, e2, e3] X.env = (false, eval e X.env) :: starEach [e2, e3] X.env) (hpl : (backTo pos (starEach [e2, e3] X.env)).any (·.1) = false) :
    PI X (.Tuple elts kk tpos) (.Call (.Name "zip" p) [e, e2, e3] [] pos) (iZ3 X.K ta) := by
  refine ⟨fun pins s σ H R I h => ?_⟩
  refine Call_ (ld_blt I hg hm PyProof.Rows.boot_zip (PyProof.Rows.callWith_type1 (thn (ha.run pos pins s σ H _ I h) fun us s1 ⟨vs, H1, I1, r1, q1⟩ => ?_) hs hpl))
  obtain ⟨a, b, c, xs, ys, zs, k1, k2, k3, rfl, hqx, hqy, hqz, q⟩ := q1
  obtain ⟨u1, u2, u3, rfl, ra, rb, rc⟩ := vals3 r1
  cases (show u1 = Value.ref a from ra)
  cases (show u2 = Value.ref b from rb)
  cases (show u3 = Value.ref c from rc)
  obtain ⟨its, rv, p1, la⟩ := k1.of I1 hqx
  obtain ⟨its2, rv2, p2, lb⟩ := k2.of I1 hqy
  obtain ⟨its3, rv3, p3, lc⟩ := k3.of I1 hqz
  refine PySem.zip_begins3 (k1.begins a its.toArray) (k2.begins b its2.toArray) (k3.begins c its3.toArray) p1 p2 p3 fun h' hz hTI hTO o1 o2 o3 hsz hk => wpAny_pyIter_zip hz ?_
  have I2 : Inv X pins σ H1 { s1 with heap := h' } := I1.kept (t' := s1.toks) hk
  refine ⟨s1.heap.objs.size + 5, [s1.heap.objs.size + 5, s1.heap.objs.size + 3, s1.heap.objs.size + 4, s1.heap.objs.size, s1.heap.objs.size + 1, s1.heap.objs.size + 2], _, _, H1, rfl, I2, turn_z3 (sep3 la lb lc) (Nat.ne_of_lt la) (Nat.ne_of_lt (Nat.lt_succ_of_lt lb)) (Nat.ne_of_lt (Nat.lt_of_lt_of_le lc (Nat.le_add_right _ 2))), ⟨hz, hTI, ⟨_, _, _, hTO⟩, k1.first o1, k2.first o2, k3.first o3⟩, fun d hdm => ?_, q⟩
  have hle : s1.heap.objs.size ≤ d := by
    simp only [List.mem_cons, List.not_mem_nil, or_false] at hdm
    rcases hdm with z | z | z | z | z | z
    · rw [z]; exact Nat.le_add_right _ _
    · rw [z]; exact Nat.le_add_right _ _
    · rw [z]; exact Nat.le_add_right _ _
    · rw [z]; exact Nat.le_refl _
    · rw [z]; exact Nat.le_add_right _ _
    · rw [z]; exact Nat.le_add_right _ _
  exact I1.fpOk hle (I1.hok.fresh hle)
end Bx

set_option Elab.async false
set_option linter.all false
set_option maxRecDepth 100000
set_option maxHeartbeats 1000000
/-! list(zip(x, y)): next of a zip while the tuple that it gave out is still there, over any two iterators (draft) -/
namespace PySem
open Sem (wp)
section
variable {prog : Program} {w : World} {A : Around} {E : Value → Shared → Prop} {s : Shared} {z TI TO i1 i2 : Addr} {fp1 fp2 : List Addr} {n1 n2 i : Nat} {P1 P2 : Nat → Value → Prop} {St1 St2 : Nat → Heap → Prop} {T : Addr} {f : Bool} {oT : Obj}
theorem zipD2_held_item {Q : Value → Shared → Prop} (S : ZipSep2 z TI TO i1 i2 fp1 fp2) (D1 : Draws prog w A i1 fp1 n1 P1 St1) (D2 : Draws prog w A i2 fp2 n2 P2 St2)
    (hz : IsZipHeld s.heap z TI TO T f) (hT : s.heap.get? T = some oT) (hTI : IsTupOf2 s.heap TI (.ref i1) (.ref i2)) (st1 : St1 i s.heap) (st2 : St2 i s.heap) (hlt1 : i < n1) (hlt2 : i < n2)
    (hQ : ∀ x1 x2 h' tk, P1 i x1 → P2 i x2 → IsZipHeld h' z TI TO T true → St1 (i + 1) h' → St2 (i + 1) h' → IsTupOf2 h' s.heap.objs.size x1 x2 → h'.objs.size = s.heap.objs.size + 1 →
      (∀ c o, c ≠ z → c ≠ i1 → c ≠ i2 → s.heap.get? c = some o → h'.get? c = some o) → Q (.ref s.heap.objs.size) { s with heap := h', toks := tk }) :
    wpAny (model prog w) A (Builtin.«zip.__next__» ⟨[.ref z], []⟩) (fun fin s' => ∃ v, fin = .done (.ret v) ∧ Q v s') E s := by
  obtain ⟨hp, g, d, tk0, os⟩ := s
  show wpAny _ _ (field (.ref z) 2 >>= _) _ _ _
  refine wpAny_bind (wpAny_field hz rfl (x := .bool false) rfl ?_)
  show wpAny _ _ (field (.ref z) 3 >>= _) _ _ _
  refine wpAny_bind (wpAny_field hz rfl (x := .ref TI) rfl ?_)
  refine wpAny_bind (wpAny_seqItems hTI rfl ?_)
  show wpAny _ _ (Builtin.SmallTypes.ownedTupleIsFree (.ref z) >>= _) _ _ _
  refine wpAny_bind (wpAny_tupleHeld_zip hz hT fun g0 hz0 hs0 => ?_)
  replace hs0 : Heap.SameBut z hp g0 := hs0
  simp only [Bool.false_eq_true, if_false]
  refine wpAny_bind ?_
  rw [← Array.forIn_toList]
  simp only [List.forIn_cons, List.forIn_nil]
  refine wpAny_bind (wpAny_bind (wpAny_holding ?_))
  show wpAny _ _ (Builtin.SmallTypes.nextOf (.ref i1) >>= _) _ _ ⟨g0, g, d, tk0, os⟩
  refine wpAny_bind (D1.item i _ _ _ hlt1 (D1.over st1 hs0 S.zf1) fun x1 p1 tk1 hx1 sn1 hp1 => wpAny_pure ?_)
  replace hp1 : Heap.SameBut i1 g0 p1 := hp1
  refine wpAny_pure ?_
  refine wpAny_bind (wpAny_bind (wpAny_holding ?_))
  show wpAny _ _ (Builtin.SmallTypes.nextOf (.ref i2) >>= _) _ _ ⟨p1, g, d, tk1, os⟩
  refine wpAny_bind (D2.item i _ _ _ hlt2 (D2.over (D2.over st2 hs0 S.zf2) hp1 S.sep1_2) fun x2 p2 tk2 hx2 sn2 hp2 => wpAny_pure ?_)
  replace hp2 : Heap.SameBut i2 p1 p2 := hp2
  refine wpAny_pure (wpAny_pure ?_)
  show wpAny _ _ (newTuple [x1, x2] >>= _) _ _ ⟨p2, g, d, tk2, os⟩
  refine wpAny_bind (wpAny_newTuple ?_)
  have hsz : p2.objs.size = hp.objs.size := by rw [hp2.1, hp1.1, hs0.1]
  have hzz : IsZipHeld p2 z TI TO T true := hp2.extBut _ _ S.zi2 (hp1.extBut _ _ S.zi1 hz0)
  have hkk : ∀ c o, c ≠ z → c ≠ i1 → c ≠ i2 → hp.get? c = some o → p2.get? c = some o := fun c o cz c1 c2 e => hp2.extBut _ _ c2 (hp1.extBut _ _ c1 (hs0.extBut _ _ cz e))
  have hj1 : St1 (i + 1) p2 := D1.over sn1 hp2 S.sep2_1
  have up : ∀ c o, p2.get? c = some o → (p2.push { cls := .type "tuple", data := .seq #[x1, x2] }).get? c = some o := fun c o e => Heap.get?_push_of_some _ e
  have hp3 : IsTupOf2 (p2.push { cls := .type "tuple", data := .seq #[x1, x2] }) p2.objs.size x1 x2 := Heap.get?_push_size _ rfl
  have hz4 : (p2.push { cls := .type "tuple", data := .seq #[x1, x2] }).objs.size = p2.objs.size + 1 := Heap.size_push ..
  refine wpAny_pure ⟨_, rfl, ?_⟩
  show Q (.ref p2.objs.size) ⟨p2.push { cls := .type "tuple", data := .seq #[x1, x2] }, g, d, tk2, os⟩
  rw [hsz] at hp3 hz4 ⊢
  exact hQ x1 x2 _ tk2 hx1 hx2 (up _ _ hzz) (D1.frame _ _ _ hj1 fun b _ o e => up b o e) (D2.frame _ _ _ sn2 fun b _ o e => up b o e) hp3 hz4 fun c o cz c1 c2 e => up c o (hkk c o cz c1 c2 e)
theorem zipD2_held_end {Q : Fin → Shared → Prop} (S : ZipSep2 z TI TO i1 i2 fp1 fp2) (D1 : Draws prog w A i1 fp1 n1 P1 St1) (D2 : Draws prog w A i2 fp2 n2 P2 St2)
    (hz : IsZipHeld s.heap z TI TO T f) (hT : s.heap.get? T = some oT) (hTI : IsTupOf2 s.heap TI (.ref i1) (.ref i2)) (st1 : St1 i s.heap) (st2 : St2 i s.heap) (hle1 : i ≤ n1) (hle2 : i ≤ n2) (hend : i = n1 ∨ i = n2)
    (hE : ∀ h' tk e, (∀ c o, c ≠ z → c ≠ i1 → c ≠ i2 → s.heap.get? c = some o → h'.get? c = some o) → (∃ o, h'.get? e = some o ∧ o.cls = .type "StopIteration") → E (.ref e) { s with heap := h', toks := tk }) :
    wpAny (model prog w) A (Builtin.«zip.__next__» ⟨[.ref z], []⟩) Q E s := by
  obtain ⟨hp, g, d, tk0, os⟩ := s
  show wpAny _ _ (field (.ref z) 2 >>= _) _ _ _
  refine wpAny_bind (wpAny_field hz rfl (x := .bool false) rfl ?_)
  show wpAny _ _ (field (.ref z) 3 >>= _) _ _ _
  refine wpAny_bind (wpAny_field hz rfl (x := .ref TI) rfl ?_)
  refine wpAny_bind (wpAny_seqItems hTI rfl ?_)
  show wpAny _ _ (Builtin.SmallTypes.ownedTupleIsFree (.ref z) >>= _) _ _ _
  refine wpAny_bind (wpAny_tupleHeld_zip hz hT fun g0 hz0 hs0 => ?_)
  replace hs0 : Heap.SameBut z hp g0 := hs0
  simp only [Bool.false_eq_true, if_false]
  refine wpAny_bind ?_
  rw [← Array.forIn_toList]
  simp only [List.forIn_cons, List.forIn_nil]
  refine wpAny_bind (wpAny_bind (wpAny_holding ?_))
  show wpAny _ _ (Builtin.SmallTypes.nextOf (.ref i1) >>= _) _ _ ⟨g0, g, d, tk0, os⟩
  by_cases hlt1 : i < n1
  · refine wpAny_bind (D1.item i _ _ _ hlt1 (D1.over st1 hs0 S.zf1) fun x1 p1 tk1 hx1 sn1 hp1 => wpAny_pure ?_)
    replace hp1 : Heap.SameBut i1 g0 p1 := hp1
    have hi2 : i = n2 := by omega
    refine wpAny_pure ?_
    refine wpAny_bind (wpAny_bind (wpAny_holding ?_))
    show wpAny _ _ (Builtin.SmallTypes.nextOf (.ref i2) >>= _) _ _ ⟨p1, g, d, tk1, os⟩
    refine wpAny_bind (D2.done ⟨p1, g, d, tk1, os⟩ _ _ (by rw [← hi2]; exact D2.over (D2.over st2 hs0 S.zf2) hp1 S.sep1_2) fun q e hq he => ?_)
    replace hq : Heap.ExtBut i2 p1 q := hq
    exact hE q tk1 e (fun c o cz c1 c2 x => hq _ _ c2 (hp1.extBut _ _ c1 (hs0.extBut _ _ cz x))) he
  · have hi1 : i = n1 := by omega
    refine wpAny_bind (D1.done ⟨g0, g, d, tk0, os⟩ _ _ (by rw [← hi1]; exact D1.over st1 hs0 S.zf1) fun q e hq he => ?_)
    replace hq : Heap.ExtBut i1 g0 q := hq
    exact hE q tk0 e (fun c o cz c1 c2 x => hq _ _ c1 (hs0.extBut _ _ cz x)) he
theorem next_zipD2_held_item {Q : Option Value → Shared → Prop} (S : ZipSep2 z TI TO i1 i2 fp1 fp2) (D1 : Draws prog w A.in1 i1 fp1 n1 P1 St1) (D2 : Draws prog w A.in1 i2 fp2 n2 P2 St2)
    (hz : IsZipHeld s.heap z TI TO T f) (hT : s.heap.get? T = some oT) (hTI : IsTupOf2 s.heap TI (.ref i1) (.ref i2)) (st1 : St1 i s.heap) (st2 : St2 i s.heap) (hlt1 : i < n1) (hlt2 : i < n2)
    (hQ : ∀ x1 x2 h' tk, P1 i x1 → P2 i x2 → IsZipHeld h' z TI TO T true → St1 (i + 1) h' → St2 (i + 1) h' → IsTupOf2 h' s.heap.objs.size x1 x2 → h'.objs.size = s.heap.objs.size + 1 →
      (∀ c o, c ≠ z → c ≠ i1 → c ≠ i2 → s.heap.get? c = some o → h'.get? c = some o) → Q (some (.ref s.heap.objs.size)) { s with heap := h', toks := tk }) :
    wpAny (model prog w) A (pyNext (.ref z)) Q E s := by
  have hTy : s.TypeIs (.ref z) "zip" := ⟨_, hz, rfl⟩
  unfold pyNext
  exact wpAny_bind (wpAny_attempt (wpAny_callSpecial?_slot (name := Str.ofString "__next__") hTy F.slot_zip_next
    (wpAny_call_entry F.slot_zip_next hTy F.entry_zip_next
      (zipD2_held_item S D1 D2 hz hT hTI st1 st2 hlt1 hlt2 fun x1 x2 h' tk y1 y2 b1 d1 d2 b5 b6 b7 => wpAny_pure (hQ x1 x2 h' tk y1 y2 b1 d1 d2 b5 b6 b7)) (F.args_zip_next_1 _))))
theorem next_zipD2_held_end {Q : Option Value → Shared → Prop} (S : ZipSep2 z TI TO i1 i2 fp1 fp2) (D1 : Draws prog w A.in1 i1 fp1 n1 P1 St1) (D2 : Draws prog w A.in1 i2 fp2 n2 P2 St2)
    (hz : IsZipHeld s.heap z TI TO T f) (hT : s.heap.get? T = some oT) (hTI : IsTupOf2 s.heap TI (.ref i1) (.ref i2)) (st1 : St1 i s.heap) (st2 : St2 i s.heap) (hle1 : i ≤ n1) (hle2 : i ≤ n2) (hend : i = n1 ∨ i = n2)
    (hQ : ∀ h' tk, (∀ c o, c ≠ z → c ≠ i1 → c ≠ i2 → s.heap.get? c = some o → h'.get? c = some o) → Q none { s with heap := h', toks := tk }) : wpAny (model prog w) A (pyNext (.ref z)) Q E s := by
  have hTy : s.TypeIs (.ref z) "zip" := ⟨_, hz, rfl⟩
  unfold pyNext
  refine wpAny_bind (wpAny_attempt (wpAny_callSpecial?_slot (name := Str.ofString "__next__") hTy F.slot_zip_next
    (wpAny_call_entry F.slot_zip_next hTy F.entry_zip_next (zipD2_held_end S D1 D2 hz hT hTI st1 st2 hle1 hle2 hend fun h' tk e hk he => ?_) (F.args_zip_next_1 _))))
  obtain ⟨o, ho, hc⟩ := he
  refine wpAny_bind (wpAny_isInstance (T := "StopIteration") (b := true) ⟨o, ho, hc⟩ isSubtype_stop ?_)
  exact wpAny_pure (hQ _ _ hk)

/-- a zip, fresh or with its tuple out -/
def ZlSt (h : Heap) (z TI TO i1 i2 S i : Nat) : Prop :=
  IsTupOf2 h TI (.ref i1) (.ref i2) ∧ ((i = 0 ∧ IsZip h z TI TO .none ∧ ∃ a b, IsTupOf2 h TO a b) ∨ ∃ T f oT, IsZipHeld h z TI TO T f ∧ h.get? T = some oT ∧ T ≠ z ∧ T ≠ TO ∧ T ≠ i1 ∧ T ≠ i2 ∧ T ≠ S)
theorem zl_item {Sl : Addr} {Q : Option Value → Shared → Prop} (S : ZipSep2 z TI TO i1 i2 fp1 fp2) (D1 : Draws prog w A.in1 i1 fp1 n1 P1 St1) (D2 : Draws prog w A.in1 i2 fp2 n2 P2 St2)
    (hz : ZlSt s.heap z TI TO i1 i2 Sl i) (st1 : St1 i s.heap) (st2 : St2 i s.heap) (hlt1 : i < n1) (hlt2 : i < n2) (hi1 : i1 < s.heap.objs.size) (hi2 : i2 < s.heap.objs.size) (hS : Sl < s.heap.objs.size)
    (hQ : ∀ x1 x2 h' tk, P1 i x1 → P2 i x2 → ZlSt h' z TI TO i1 i2 Sl (i + 1) → St1 (i + 1) h' → St2 (i + 1) h' → IsTupOf2 h' s.heap.objs.size x1 x2 → h'.objs.size = s.heap.objs.size + 1 →
      (∀ c o, c ≠ z → c ≠ TO → c ≠ i1 → c ≠ i2 → s.heap.get? c = some o → h'.get? c = some o) → Q (some (.ref s.heap.objs.size)) { s with heap := h', toks := tk }) :
    wpAny (model prog w) A (pyNext (.ref z)) Q E s := by
  obtain ⟨hTI, hz⟩ := hz
  rcases hz with ⟨rfl, hz, a, b, hTO⟩ | ⟨T, f, oT, hz, hT, t1, t2, t3, t4, t5⟩
  · have e1 := Heap.lt_size hz
    have e2 := Heap.lt_size hTO
    exact wpAny_pyNext_zipD2_item S D1 D2 hz hTI hTO st1 st2 hlt1 hlt2 fun x1 x2 h' tk y1 y2 b1 b2 d1 d2 b5 b6 b7 => hQ x1 x2 h' tk y1 y2 ⟨b7 TI _ S.TIz S.TITO S.TIi1 S.TIi2 hTI, .inr ⟨_, false, _, b1, b5, Nat.ne_of_gt e1, Nat.ne_of_gt e2, Nat.ne_of_gt hi1, Nat.ne_of_gt hi2, Nat.ne_of_gt hS⟩⟩ d1 d2 b5 b6 b7
  · exact next_zipD2_held_item S D1 D2 hz hT hTI st1 st2 hlt1 hlt2 fun x1 x2 h' tk y1 y2 b1 d1 d2 b5 b6 b7 => hQ x1 x2 h' tk y1 y2 ⟨b7 TI _ S.TIz S.TIi1 S.TIi2 hTI, .inr ⟨T, true, oT, b1, b7 T oT t1 t3 t4 hT, t1, t2, t3, t4, t5⟩⟩ d1 d2 b5 b6 fun c o c1 _ c3 c4 e => b7 c o c1 c3 c4 e
theorem zl_end {Sl : Addr} {Q : Option Value → Shared → Prop} (S : ZipSep2 z TI TO i1 i2 fp1 fp2) (D1 : Draws prog w A.in1 i1 fp1 n1 P1 St1) (D2 : Draws prog w A.in1 i2 fp2 n2 P2 St2)
    (hz : ZlSt s.heap z TI TO i1 i2 Sl i) (st1 : St1 i s.heap) (st2 : St2 i s.heap) (hle1 : i ≤ n1) (hle2 : i ≤ n2) (hend : i = n1 ∨ i = n2)
    (hQ : ∀ h' tk, (∀ c o, c ≠ z → c ≠ TO → c ≠ i1 → c ≠ i2 → s.heap.get? c = some o → h'.get? c = some o) → Q none { s with heap := h', toks := tk }) :
    wpAny (model prog w) A (pyNext (.ref z)) Q E s := by
  obtain ⟨hTI, hz⟩ := hz
  rcases hz with ⟨rfl, hz, a, b, hTO⟩ | ⟨T, f, oT, hz, hT, t1, t2, t3, t4, t5⟩
  · exact wpAny_pyNext_zipD2_end S D1 D2 hz hTI hTO st1 st2 hle1 hle2 hend hQ
  · exact next_zipD2_held_end S D1 D2 hz hT hTI st1 st2 hle1 hle2 hend fun h' tk k => hQ h' tk fun c o c1 _ c3 c4 e => k c o c1 c3 c4 e
theorem ZlSt.keep {h h' : Heap} {S : Addr} (x : ZlSt h z TI TO i1 i2 S i) (hk : ∀ b o, b ≠ S → h.get? b = some o → h'.get? b = some o) (h1 : z ≠ S) (h2 : TI ≠ S) (h3 : TO ≠ S) : ZlSt h' z TI TO i1 i2 S i := by
  obtain ⟨a, b⟩ := x
  refine ⟨hk _ _ h2 a, ?_⟩
  rcases b with ⟨e, b1, u, v, b2⟩ | ⟨T, f, oT, b1, b2, t1, t2, t3, t4, t5⟩
  · exact .inl ⟨e, hk _ _ h1 b1, u, v, hk _ _ h3 b2⟩
  · exact .inr ⟨T, f, oT, hk _ _ h1 b1, hk _ _ t5 b2, t1, t2, t3, t4, t5⟩
/-- the pairs that came -/
structure ZlG (P1 P2 : Nat → Value → Prop) (lo : Addr) (h : Heap) (as : List Addr) : Prop where
  rise : as.Pairwise (· < ·)
  above : ∀ a ∈ as, lo ≤ a
  pairs : ∀ (j : Nat) (a : Addr), as[j]? = some a → ∃ x1 x2, P1 j x1 ∧ P2 j x2 ∧ IsTupOf2 h a x1 x2
theorem ZlG.there {P1 P2 : Nat → Value → Prop} {lo : Addr} {h : Heap} {as : List Addr} (g : ZlG P1 P2 lo h as) {a : Addr} (ha : a ∈ as) : a < h.objs.size := by
  obtain ⟨j, hj⟩ := List.mem_iff_getElem?.mp ha
  obtain ⟨_, _, _, _, e⟩ := g.pairs j a hj
  exact Heap.lt_size e

theorem zl_loop {S : Addr} {R : Result → Shared → Prop} {lo : Addr} (hh : A.handled = none) (Z : ZipSep2 z TI TO i1 i2 fp1 fp2) (D1 : Draws prog w A.in1.in1 i1 fp1 n1 P1 St1) (D2 : Draws prog w A.in1.in1 i2 fp2 n2 P2 St2)
    (s1 : S ∉ fp1) (s2 : S ∉ fp2) (s3 : z ≠ S) (s4 : TI ≠ S) (s5 : TO ≠ S) (l0 : S < lo) (l1 : z < lo) (l2 : TO < lo) (l3 : i1 < lo) (l4 : i2 < lo) (hn : min n1 n2 ≤ sizeLine) (res : Value) {h₁ : Heap}
    (hR : ∀ h' tk acc c as, (∀ b o, b ≠ S → b ≠ z → b ≠ TO → b ≠ i1 → b ≠ i2 → h₁.get? b = some o → h'.get? b = some o) → h'.get? S = some { cls := .type "list", dict := none, data := .seq acc c, slots := #[] } → as.length = min n1 n2 → ZlG P1 P2 lo h' as →
      acc.toList = as.map Value.ref → R (.ok (.ret res)) { s with heap := h', toks := tk }) :
    ∀ (k i : Nat) (h : Heap) (tk c : Nat) (acc : Array Value) (as : List Addr), min n1 n2 - i = k → i ≤ min n1 n2 → ZlSt h z TI TO i1 i2 S i → St1 i h → St2 i h → (∀ b o, b ≠ S → b ≠ z → b ≠ TO → b ≠ i1 → b ≠ i2 → h₁.get? b = some o → h.get? b = some o) →
      h.get? S = some { cls := .type "list", dict := none, data := .seq acc c, slots := #[] } → acc.toList = as.map Value.ref → as.length = i → ZlG P1 P2 lo h as → lo ≤ h.objs.size →
      codeAny (model prog w) A (.builtin "list.extend.loop" ⟨[.ref S, .ref z, res], []⟩) R { s with heap := h, toks := tk } := by
  have si1 : S ≠ i1 := fun e => s1 (e ▸ Z.mem1)
  have si2 : S ≠ i2 := fun e => s2 (e ▸ Z.mem2)
  intro k
  induction k with
  | zero =>
    intro i h tk c acc as hk hi hst t1 t2 hkeep hS hacc hal hG hlo
    refine codeAny_builtin PySem.F.entry_extend_loop ?_
    rw [Around.under_plainId PySem.F.plain_extend_loop _]
    show wpAny _ A.in1 (pyNext (.ref z) >>= _) _ _ _
    refine wpAny_bind (zl_end (s := { s with heap := h, toks := tk }) (A := A.in1) Z D1 D2 hst t1 t2 (by omega) (by omega) (by omega) fun h' tk' he => ?_)
    refine wpAny_pure (hR h' tk' acc c as (fun b o b1 b2 b3 b4 b5 e => he b o b2 b3 b4 b5 (hkeep b o b1 b2 b3 b4 b5 e)) (he S _ (Ne.symm s3) (Ne.symm s5) si1 si2 hS) (by omega) ⟨hG.rise, hG.above, fun j a hj => ?_⟩ hacc)
    obtain ⟨x1, x2, e1, e2, e3⟩ := hG.pairs j a hj
    have ha := hG.above a (List.mem_of_getElem? hj)
    exact ⟨x1, x2, e1, e2, he a _ (Nat.ne_of_gt (Nat.lt_of_lt_of_le l1 ha)) (Nat.ne_of_gt (Nat.lt_of_lt_of_le l2 ha)) (Nat.ne_of_gt (Nat.lt_of_lt_of_le l3 ha)) (Nat.ne_of_gt (Nat.lt_of_lt_of_le l4 ha)) e3⟩
  | succ k ih =>
    intro i h tk c acc as hk hi hst t1 t2 hkeep hS hacc hal hG hlo
    have hsz : acc.size = i := by rw [← Array.length_toList, hacc, List.length_map, hal]
    refine codeAny_builtin PySem.F.entry_extend_loop ?_
    rw [Around.under_plainId PySem.F.plain_extend_loop _]
    show wpAny _ A.in1 (pyNext (.ref z) >>= _) _ _ _
    refine wpAny_bind (zl_item (s := { s with heap := h, toks := tk }) (Sl := S) Z D1 D2 hst t1 t2 (by omega) (by omega) (Nat.lt_of_lt_of_le l3 hlo) (Nat.lt_of_lt_of_le l4 hlo) (Heap.lt_size hS) fun x1 x2 h' tk' p1 p2 hst' u1 u2 ht hz hkp => ?_)
    dsimp only at ht hz hkp ⊢
    have hS' := hkp S _ (Ne.symm s3) (Ne.symm s5) si1 si2 hS
    have up : ∀ b o, b ≠ S → h'.get? b = some o → (h'.update S (Obj.mapSeq (·.push (Value.ref h.objs.size)))).get? b = some o := fun b o hb e => (Heap.get?_update_other _ _ (Ne.symm hb)).trans e
    have hSl : S < h.objs.size := Heap.lt_size hS
    show wpAny _ A.in1 (updateSeq S (·.push (Value.ref h.objs.size)) >>= _) _ _ _
    refine wpAny_bind ?_
    refine wpAny_updateSeq (s := { s with heap := h', toks := tk' }) hS' rfl (wpAny_pure ⟨plainId_quiet PySem.F.plain_extend_loop _, ih (i + 1) _ tk' _ (acc.push (Value.ref h.objs.size)) (as ++ [h.objs.size]) (by omega) (by omega) (hst'.keep up s3 s4 s5) (D1.frame _ _ _ u1 fun b hb o e => up b o (fun q => s1 (q ▸ hb)) e) (D2.frame _ _ _ u2 fun b hb o e => up b o (fun q => s2 (q ▸ hb)) e)
      (fun b o b1 b2 b3 b4 b5 e => up b o b1 (hkp b o b2 b3 b4 b5 (hkeep b o b1 b2 b3 b4 b5 e))) (Heap.get?_update_self _ hS' rfl) (by rw [Array.toList_push, hacc, List.map_append]; rfl) (by rw [List.length_append, hal]; rfl) ⟨?_, ?_, ?_⟩ ?_⟩) (by rw [hsz]; omega) (by show (acc.push (Value.ref h.objs.size)).size ≤ sizeLine + 1; rw [Array.size_push, hsz]; omega)
    · refine List.pairwise_append.mpr ⟨hG.rise, List.pairwise_singleton _ _, fun a ha b hb => ?_⟩
      rw [List.mem_singleton.mp hb]
      exact hG.there ha
    · intro a ha
      rcases List.mem_append.mp ha with ha | ha
      · exact hG.above a ha
      · rw [List.mem_singleton.mp ha]; exact hlo
    · intro j b hj
      rcases Nat.lt_trichotomy j as.length with q1 | q1 | q1
      · rw [List.getElem?_append_left q1] at hj
        obtain ⟨y1, y2, e1, e2, e3⟩ := hG.pairs j b hj
        have hb := hG.above b (List.mem_of_getElem? hj)
        exact ⟨y1, y2, e1, e2, up b _ (Nat.ne_of_gt (Nat.lt_of_lt_of_le l0 hb)) (hkp b _ (Nat.ne_of_gt (Nat.lt_of_lt_of_le l1 hb)) (Nat.ne_of_gt (Nat.lt_of_lt_of_le l2 hb)) (Nat.ne_of_gt (Nat.lt_of_lt_of_le l3 hb)) (Nat.ne_of_gt (Nat.lt_of_lt_of_le l4 hb)) e3)⟩
      · subst q1
        have hb : h.objs.size = b := by simpa using hj
        subst hb
        exact ⟨x1, x2, by rw [hal]; exact p1, by rw [hal]; exact p2, up _ _ (Nat.ne_of_gt hSl) ht⟩
      · have hnone : (as ++ [h.objs.size])[j]? = none := List.getElem?_eq_none (by rw [List.length_append, List.length_singleton]; omega)
        rw [hnone] at hj; cases hj
    · have e : (h'.update S (Obj.mapSeq (·.push (Value.ref h.objs.size)))).get? h.objs.size = _ := up _ _ (Nat.ne_of_gt hSl) ht
      exact Nat.le_trans hlo (Nat.le_of_lt (Heap.lt_size e))

theorem zip_no_len : typeLookup (.type "zip") "__len__" = pure none := am_miss_of_fast (by decide +kernel)
theorem zip_no_hint : typeLookup (.type "zip") "__length_hint__" = pure none := am_miss_of_fast (by decide +kernel)
/-- list(z) of a zip that begins -/
theorem zl_call {Q : Value → Shared → Prop} (hh : A.handled = none) (Z : ZipSep2 z TI TO i1 i2 fp1 fp2) (D1 : Draws prog w A.in1.in1.in1 i1 fp1 n1 P1 St1) (D2 : Draws prog w A.in1.in1.in1 i2 fp2 n2 P2 St2)
    (hz : IsZip s.heap z TI TO .none) (hTI : IsTupOf2 s.heap TI (.ref i1) (.ref i2)) {a b : Value} (hTO : IsTupOf2 s.heap TO a b) (t1 : St1 0 s.heap) (t2 : St2 0 s.heap)
    (f1 : ∀ c ∈ fp1, c < s.heap.objs.size) (f2 : ∀ c ∈ fp2, c < s.heap.objs.size) (hn : min n1 n2 ≤ sizeLine)
    (hQ : ∀ h' tk acc c as, (∀ b o, b ≠ z → b ≠ TO → b ≠ i1 → b ≠ i2 → s.heap.get? b = some o → h'.get? b = some o) → h'.get? s.heap.objs.size = some { cls := .type "list", dict := none, data := .seq acc c, slots := #[] } → as.length = min n1 n2 → ZlG P1 P2 (s.heap.objs.size + 1) h' as →
      acc.toList = as.map Value.ref → Q (.ref s.heap.objs.size) { s with heap := h', toks := tk }) :
    wpAny (model prog w) A (call (.type "list") [.ref z]) Q E s := by
  have e1 := Heap.lt_size hz
  have e2 := Heap.lt_size hTI
  have e3 := Heap.lt_size hTO
  have hSz : s.heap.objs.size ≠ z := Nat.ne_of_gt e1
  refine callType_codes (Q₁ := fun obj s₁ => obj = .ref s.heap.objs.size ∧ s₁ = { s with heap := s.heap.push { cls := .type "list", data := .seq #[] } }) F.called_list (F.typeCall_list_1 _) F.entry_list_init
    (code_list_new _ ⟨rfl, rfl⟩) fun obj s₁ h₁ => ?_
  obtain ⟨rfl, rfl⟩ := h₁
  have hS : (s.heap.push { cls := .type "list", data := .seq #[] }).get? s.heap.objs.size = some { cls := .type "list", data := .seq #[] } := Heap.get?_push_size _ rfl
  refine ⟨⟨_, hS, rfl⟩, F.args_list_init_2 _ _, ?_⟩
  show wpAny _ A.in1.in1 (do let old ← Builtin.List.listItems (.ref s.heap.objs.size); Builtin.List.listUpdate (.ref s.heap.objs.size) (fun _ => #[]); letGo old.toList.reverse; Builtin.List.listExtendWith (.ref s.heap.objs.size) (.ref z) .none) _ _ _
  refine wpAny_bind ?_
  unfold Builtin.List.listItems
  refine wpAny_bind (wpAny_seqItems hS rfl (wpAny_pure ?_))
  show wpAny _ A.in1.in1 (updateSeq s.heap.objs.size (fun _ => #[]) >>= fun _ => letGo (#[] : Array Value).toList.reverse >>= fun _ => Builtin.List.listExtendWith (.ref s.heap.objs.size) (.ref z) .none) _ _ _
  refine wpAny_bind (wpAny_updateSeq hS rfl ?_)
  have hS2 := Heap.get?_update_self (Obj.mapSeq (fun _ => (#[] : Array Value))) hS rfl
  refine wpAny_bind (wpAny_letGo ?_)
  unfold Builtin.List.listExtendWith
  have up : ∀ (h : Heap) (f : Obj → Obj), (∀ b o, s.heap.get? b = some o → h.get? b = some o) → ∀ b o, s.heap.get? b = some o → (h.update s.heap.objs.size f).get? b = some o := fun h f q b o e =>
    (Heap.get?_update_other _ _ (Ne.symm (Nat.ne_of_lt (Heap.lt_size e)))).trans (q b o e)
  have k1 : ∀ b o, s.heap.get? b = some o → (s.heap.push { cls := .type "list", data := .seq #[] }).get? b = some o := fun b o e => Heap.get?_push_of_some _ e
  have k2 := up _ (Obj.mapSeq (fun _ => (#[] : Array Value))) k1
  refine wpAny_bind (wpAny_typeOf (T := "zip") ⟨_, k2 _ _ hz, rfl⟩ ?_)
  have h1 : Builtin.List.listSameRef (.ref s.heap.objs.size) (.ref z) = false := by simp [Builtin.List.listSameRef, hSz]
  have h2 : (Value.type "zip" == Value.type "list") = false := by decide
  have h3 : (Value.type "zip" == Value.type "tuple") = false := by decide
  simp only [h1, h2, h3, Bool.or_false, Bool.false_eq_true, if_false]
  refine wpAny_bind (wpAny_pyIter_zip (k2 _ _ hz) ?_)
  refine wpAny_bind (wpAny_holding ?_)
  unfold Builtin.List.listLengthHint
  refine wpAny_bind (wpAny_specialOf (T := "zip") ⟨_, k2 _ _ hz, rfl⟩ zip_no_len ?_)
  show wpAny _ A.in1.in1 (specialOf (Value.ref z) (Str.ofString "__length_hint__") >>= _) _ _ _
  refine wpAny_bind (wpAny_specialOf (T := "zip") ⟨_, k2 _ _ hz, rfl⟩ zip_no_hint ?_)
  refine wpAny_pure ?_
  show wpAny _ A.in1.in1 (rule "list.extend.makes-room" >>= fun _ => Builtin.List.listTouch (.ref s.heap.objs.size) >>= fun _ =>
    again (.builtin "list.extend.loop" ⟨[.ref s.heap.objs.size, .ref z, .none], []⟩)) _ _ _
  refine wpAny_bind (wpAny_rule ?_)
  refine wpAny_bind ?_
  show wpAny _ A.in1.in1 (updateSeq s.heap.objs.size (·.push .none) >>= fun _ => updateSeq s.heap.objs.size (·.pop)) _ _ _
  refine wpAny_bind (wpAny_updateSeq hS2 rfl ?_)
  have hS3 := Heap.get?_update_self (Obj.mapSeq (·.push Value.none)) hS2 rfl
  refine wpAny_updateSeq (hz := by seq_fits) hS3 rfl ?_
  have hS4 := Heap.get?_update_self (Obj.mapSeq (·.pop)) hS3 rfl
  have k4 := up _ (Obj.mapSeq (·.pop)) (up _ (Obj.mapSeq (·.push Value.none)) k2)
  have hlo : ∀ {h : Heap}, (∃ o, h.get? s.heap.objs.size = some o) → s.heap.objs.size + 1 ≤ h.objs.size := fun ⟨o, e⟩ => Heap.lt_size e
  refine wpAny_pure ⟨plainId_quiet F.plain_extend_loop _, ?_⟩
  refine zl_loop (A := A.in1) (s := s) (h₁ := s.heap) (lo := s.heap.objs.size + 1) hh Z D1 D2 (fun m => Nat.lt_irrefl _ (f1 _ m)) (fun m => Nat.lt_irrefl _ (f2 _ m)) (Nat.ne_of_lt e1) (Nat.ne_of_lt e2) (Nat.ne_of_lt e3) (Nat.lt_succ_self _) (Nat.lt_succ_of_lt e1) (Nat.lt_succ_of_lt e3) (Nat.lt_succ_of_lt (f1 _ Z.mem1)) (Nat.lt_succ_of_lt (f2 _ Z.mem2)) hn .none
    (fun h' tk acc c as q1 q2 q3 q4 q5 => ⟨rfl, hQ h' tk acc c as (fun b o b2 b3 b4 b5 e => q1 b o (Nat.ne_of_lt (Heap.lt_size e)) b2 b3 b4 b5 e) q2 q3 q4 q5⟩)
    (min n1 n2) 0 _ s.toks _ #[] [] (Nat.sub_zero _) (Nat.zero_le _) ⟨k4 _ _ hTI, .inl ⟨rfl, k4 _ _ hz, a, b, k4 _ _ hTO⟩⟩ (D1.frame _ _ _ t1 fun b _ o e => k4 b o e) (D2.frame _ _ _ t2 fun b _ o e => k4 b o e) (fun b o _ _ _ _ _ e => k4 b o e) hS4 rfl rfl ⟨List.Pairwise.nil, (fun _ ha => nomatch ha), (fun j a hj => by simp at hj)⟩ (hlo ⟨_, hS4⟩)
end
end PySem
namespace Bx
open PySem PySem.Spec PyProof.Rows L2
/-- many new objects at once -/
theorem un_grow {fs ex : List Addr} {H H' : Hp} {h h' : Heap} (k : ∀ b u, h.get? b = some u → h'.get? b = some u) (mono : ∀ b o, H b = some o → H' b = some o) (new : ∀ b, b < h.objs.size → H b = none → H' b = none) : Un fs ex H H' h h' where
  keep := fun b u q _ _ _ => k b u q
  slot := fun b u q _ _ _ => ⟨u.slots, k b u q⟩
  free := fun b u q n _ => new b (Heap.lt_size q) n
  there := fun b u q _ => ⟨u, k b u q⟩
  tups := fun b xs q => mono _ _ q
  frzs := fun b u xs q => mono _ _ q
  tbls := fun b ps q => ⟨#[], by rw [mono _ _ q]; simp⟩
theorem inv_grow {X : Cx} {pins : List (Addr × Obj)} {σ : L2.St} {H H' : Hp} {s : Shared} {h' : Heap} {t' : Nat} (I : Inv X pins σ H s) (k : ∀ b u, s.heap.get? b = some u → h'.get? b = some u) (mono : ∀ b o, H b = some o → H' b = some o) (new : ∀ b, b < s.heap.objs.size → H b = none → H' b = none)
    (ok : ∀ b o, H b = none → H' b = some o → ObjOk X.prog X.w H' h' b o) : Inv X pins σ H' { s with heap := h', toks := t' } :=
  I.un (un_grow k mono new) fun b o e => by
    cases hb : H b with
    | none => exact ok b o hb e
    | some u =>
      have e2 := mono b u hb
      rw [e] at e2
      cases e2
      exact (I.hok b o hb).stay (fun c v _ q => k c v q) (fun c q => mono _ _ q) fun c xs q => mono _ _ q
end Bx

set_option Elab.async false
set_option linter.all false
set_option maxRecDepth 100000
set_option maxHeartbeats 4000000
namespace Bx
open PySem PySem.Spec PyProof.Rows L2
/-- the pairs, where they came to lie -/
def tupsAt (xs ys : List V) : List Addr → Nat → Addr → Option HO
  | [], _, _ => none
  | t :: ts, j, b => if b = t then (match xs[j]?, ys[j]? with | some x, some y => some (.tup [x, y]) | _, _ => none) else tupsAt xs ys ts (j + 1) b
def lzHp (H : Hp) (xs ys : List V) (ts : List Addr) (p : Addr) : Hp := fun b => if b = p then some (.lst (ts.map V.ref)) else match tupsAt xs ys ts 0 b with | some o => some o | none => H b
theorem tupsAt_mem {xs ys : List V} : ∀ {ts : List Addr} {j : Nat} {b : Addr} {o : HO}, tupsAt xs ys ts j b = some o → b ∈ ts ∧ ∃ k x y, ts[k]? = some b ∧ xs[j + k]? = some x ∧ ys[j + k]? = some y ∧ o = .tup [x, y]
  | [], _, _, _, h => by cases h
  | t :: ts, j, b, o, h => by
    unfold tupsAt at h
    by_cases e : b = t
    · subst e
      rw [if_pos rfl] at h
      split at h
      · rename_i x y hx hy
        cases h
        exact ⟨List.mem_cons_self, 0, x, y, rfl, hx, hy, rfl⟩
      · cases h
    · rw [if_neg e] at h
      obtain ⟨m, k, x, y, h1, h2, h3, h4⟩ := tupsAt_mem h
      exact ⟨List.mem_cons_of_mem _ m, k + 1, x, y, h1, by rw [show j + (k + 1) = j + 1 + k by omega]; exact h2, by rw [show j + (k + 1) = j + 1 + k by omega]; exact h3, h4⟩
/-- list(zip(x, y)) -/
def tLz (K : PySem.W.Frag) (ta : TA) : TE := fun σ H Q => ta σ H fun vs H1 => ∃ a b xs ys k1 k2, vs = [.ref a, .ref b] ∧ Kd.sq k1 K H1 a xs ∧ Kd.sq k2 K H1 b ys ∧ min xs.length ys.length ≤ sizeLine ∧
  ∀ (ts : List Addr) (p : Addr), ts.length = min xs.length ys.length → ts.Pairwise (· < ·) → (∀ t ∈ ts, p < t ∧ H1 t = none) → H1 p = none → Q (.ref p) (lzHp H1 xs ys ts p)
theorem pe_lz {X : Cx} {e e2 : Expr} {ta : TA} {p0 p pos pos2 : Pos} (hc : X.calm = true) (hgl : Gl X "list") (hml : X.mg "list" = none) (hg : Gl X "zip") (hm : X.mg "zip" = none) (ha : PA X [e, e2] ta)
    (hs1 : starEach [.Call (.Name "zip" p) [e, e2] [] pos2] X.env = (false, eval (.Call (.Name "zip" p) [e, e2] [] pos2) X.env) :: starEach [] X.env := by rfl)
    (hp1 : (backTo pos (starEach [] X.env)).any (·.1) = false := by rfl) (hs : starEach [e, e2] X.env = (false, eval e X.env) :: starEach [e2] X.env := by rfl) (hpl : (backTo pos2 (starEach [e2] X.env)).any (·.1) = false := by rfl) :
    PE X (.Call (.Name "list" p0) [.Call (.Name "zip" p) [e, e2] [] pos2] [] pos) (tLz X.K ta) := by
  refine ⟨fun pins s σ H Q I h => ?_⟩
  refine wpAny_Call_Name_kw (ld_blt I hgl hml (by decide +kernel : bootBuiltins "list" = some (.type "list")) ?_)
  refine PyProof.Rows.callWith_type1 ?_ hs1 hp1
  rw [hs1]
  show wpAny _ _ (spliced ((false, eval (.Call (.Name "zip" p) [e, e2] [] pos2) X.env) :: backTo pos (starEach [] X.env))) _ _ s
  refine Calls.spliced_cons ?_
  refine wpAny_Call_Name_kw (ld_blt I hg hm PyProof.Rows.boot_zip ?_)
  refine PyProof.Rows.callWith_type1 (thn (ha.run pos2 pins s σ H _ I h) fun us s1 ⟨vs, H1, I1, r1, q1⟩ => ?_) hs hpl
  obtain ⟨a, b, xs, ys, k1, k2, rfl, hqx, hqy, hn, q⟩ := q1
  obtain ⟨u1, u2, rfl, ra, rb⟩ := vals2 r1
  cases (show u1 = Value.ref a from ra)
  cases (show u2 = Value.ref b from rb)
  obtain ⟨its, rv, p1, la⟩ := k1.of I1 hqx
  obtain ⟨its2, rv2, p2, lb⟩ := k2.of I1 hqy
  have hh : X.A.in1.handled = none := I1.ok.hd hc
  have l1 := rv.length
  have l2 := rv2.length
  refine wpAny_mono (Q := fun v s1 => wpAny (model X.prog X.w) X.A (call (.type "list") [v]) (EP X pins σ Q) X.xe s1) ?_ (fun v s4 h4 => Calls.spliced_nil h4) fun _ _ z => z
  refine PySem.zip_begins2 (k1.begins a its.toArray) (k2.begins b its2.toArray) p1 p2 fun h' hz hTI hTO o1 o2 hsz hk => ?_
  have up : ∀ {c : Addr} {j : Nat}, c < s1.heap.objs.size → c < s1.heap.objs.size + j := fun h => Nat.lt_of_lt_of_le h (Nat.le_add_right _ _)
  have D1 := k1.draws (prog := X.prog) (w := X.w) (A := X.A.in1.in1.in1) hh s1.heap.objs.size a (Nat.ne_of_lt la) its.toArray
  have D2 := k2.draws (prog := X.prog) (w := X.w) (A := X.A.in1.in1.in1) hh (s1.heap.objs.size + 1) b (Nat.ne_of_lt (Nat.lt_succ_of_lt lb)) its2.toArray
  refine PySem.zl_call (s := { s1 with heap := h' }) (A := X.A) hh (sep2 la lb) D1 D2 hz hTI hTO ⟨k1.first o1, ?_⟩ ⟨k2.first o2, ?_⟩ ?_ ?_ ?_ fun h'' tk acc c as k2' hS hlen hG hacc => ?_
  · show k1.is h' a its.toArray
    cases k1
    · exact p1.at fun o e => hk _ o e
    · exact p1.at fun o e => hk _ o e
  · show k2.is h' b its2.toArray
    cases k2
    · exact p2.at fun o e => hk _ o e
    · exact p2.at fun o e => hk _ o e
  · intro c hcm
    show c < h'.objs.size
    rw [hsz]
    simp only [List.mem_cons, List.not_mem_nil, or_false] at hcm
    rcases hcm with e | e
    · rw [e]; exact Nat.lt_add_of_pos_right (by decide)
    · rw [e]; exact up la
  · intro c hcm
    show c < h'.objs.size
    rw [hsz]
    simp only [List.mem_cons, List.not_mem_nil, or_false] at hcm
    rcases hcm with e | e
    · rw [e]; exact Nat.add_lt_add_left (by decide) _
    · rw [e]; exact up lb
  · simp only [List.size_toArray]
    rw [← l1, ← l2]
    exact hn
  · have kk : ∀ c o, s1.heap.get? c = some o → h''.get? c = some o := fun c o e => k2' c o (Nat.ne_of_lt (up (Heap.lt_size e))) (Nat.ne_of_lt (up (Heap.lt_size e))) (Nat.ne_of_lt (Heap.lt_size e)) (Nat.ne_of_lt (up (Heap.lt_size e))) (hk c o e)
    have hS0 : s1.heap.objs.size ≤ h'.objs.size := by rw [hsz]; exact Nat.le_add_right _ _
    have hab : ∀ t ∈ as, h'.objs.size < t := fun t ht => hG.above t ht
    have fr : ∀ t ∈ as, H1 t = none := fun t ht => I1.hok.fresh (Nat.le_trans hS0 (Nat.le_of_lt (hab t ht)))
    have frS : H1 h'.objs.size = none := I1.hok.fresh hS0
    have hlen2 : as.length = min xs.length ys.length := by
      rw [hlen]
      simp only [List.size_toArray]
      rw [← l1, ← l2]
    have vr : ∀ l : List Addr, Vals (l.map V.ref) (l.map Value.ref) := fun l => by
      induction l with
      | nil => exact .nil
      | cons a l ih => exact .cons rfl ih
    suffices F : Inv X pins σ (lzHp H1 xs ys as h'.objs.size) { s1 with heap := h'', toks := tk } from ⟨.ref h'.objs.size, lzHp H1 xs ys as h'.objs.size, F, rfl, q as _ hlen2 hG.rise (fun t ht => ⟨hab t ht, fr t ht⟩) frS⟩
    refine inv_grow (t' := tk) I1 kk (fun b o e => ?_) (fun b hb e => ?_) (fun b o e e' => ?_)
    · unfold lzHp
      rw [if_neg (fun z => by rw [z, frS] at e; cases e)]
      cases z : tupsAt xs ys as 0 b with
      | none => exact e
      | some o' => rw [fr b (tupsAt_mem z).1] at e; cases e
    · unfold lzHp
      rw [if_neg (Nat.ne_of_lt (Nat.lt_of_lt_of_le hb hS0))]
      cases z : tupsAt xs ys as 0 b with
      | none => exact e
      | some o' => exact absurd (Nat.lt_of_lt_of_le hb (Nat.le_trans hS0 (Nat.le_of_lt (hab b (tupsAt_mem z).1)))) (Nat.lt_irrefl _)
    · unfold lzHp at e'
      by_cases hb : b = h'.objs.size
      · rw [if_pos hb] at e'
        cases e'
        refine ⟨by rw [List.length_map, hlen2]; exact hn, as.map Value.ref, c, vr as, ?_⟩
        rw [hb, ← hacc]
        simpa using hS
      · rw [if_neg hb] at e'
        cases z : tupsAt xs ys as 0 b with
        | none => rw [z] at e'; rw [e] at e'; cases e'
        | some o' =>
          rw [z] at e'
          cases e'
          obtain ⟨m, k, x, y, g1, g2, g3, rfl⟩ := tupsAt_mem z
          rw [Nat.zero_add] at g2 g3
          obtain ⟨x1, x2, w1, w2, w3⟩ := hG.pairs k b g1
          obtain ⟨u, hu, ru⟩ := rv.get g2
          obtain ⟨u2, hu2, ru2⟩ := rv2.get g3
          have d1 : x1 = u := by
            have z1 : its[k]? = some x1 := by simpa using w1
            rw [hu] at z1
            exact (Option.some.inj z1).symm
          have d2 : x2 = u2 := by
            have z1 : its2[k]? = some x2 := by simpa using w2
            rw [hu2] at z1
            exact (Option.some.inj z1).symm
          subst d1 d2
          exact ⟨by show 2 ≤ sizeLine; decide, [x1, x2], .cons ru (.cons ru2 .nil), ⟨_, w3, rfl, _, rfl⟩⟩
end Bx

set_option Elab.async false
set_option linter.all false
set_option maxRecDepth 100000
set_option autoImplicit false
set_option maxHeartbeats 3200000
/-! sorted(set(x)), x a list or a tuple of ints; sum(x, []), x a list of lists. -/
namespace Bx
open PySem PySem.Spec PyProof.Rows L2
section
variable {P : Program} {w : World} {A : Around} {E : Value → Shared → Prop} {s : Shared} {a : Addr}
/-- an empty set's object -/
abbrev eSet (w : World) : Obj := { cls := .type "set", dict := none, data := .set #[] 0 (.fresh 0 0 (!w.params.followText "set-order")) }
theorem set_of_list {l : Addr} {items : Array Value} (ns : List Int) {Q : Value → Shared → Prop} (hh : A.handled = none) (hl : s.heap.IsList l items) (hit : IntsAre items.toList ns) (hb : ns.length + 1 < scanBound)
    (h : ∀ (h' : Heap) (tk c : Nat), SetR w h' s.heap.objs.size (fun j => decide (j ∈ ns)) c → c ≤ ns.length → (∀ b o, s.heap.get? b = some o → h'.get? b = some o) → Q (.ref s.heap.objs.size) { s with heap := h', toks := tk }) :
    wpAny (model P w) A (call (.type "set") [.ref l]) Q E s := by
  have hisz : items.size = ns.length := by rw [← IntsAre.length hit, Array.length_toList]
  obtain ⟨c, tl, hmro⟩ := F.called_set.mro
  have made := F.called_set.made; have sub := F.called_set.sub
  refine wpAny_call (codeAny_of_tree (show wpAny _ _ (callAny (.type "set") _) _ _ _ from wpAny_pure ⟨Code.quiet_builtin _ (by decide +kernel), codeAny_builtin F.entry_type_call ?_⟩))
  rw [Around.under_plain (weight_type_call_type "set" [.ref l] []) rfl]
  have nt := F.called_set.notType; have cc := F.called_set.canCreate; have tc := F.typeCall_set_1 (.ref l)
  repeat (any_goals (first | assumption | wp_step))
  refine codeAny_mono (L2.code_set_led1 (.ref l) (E := E) (Q₁ := fun obj s₁ => obj = .ref s.heap.objs.size ∧ s₁ = { s with heap := s.heap.push (eSet w) }) ⟨rfl, rfl⟩) fun r s₁ hr => ?_
  cases r with
  | error e => exact hr
  | ok fl =>
    cases fl with
    | ret obj =>
      obtain ⟨rfl, rfl⟩ := hr
      have S0 : (s.heap.push (eSet w)).get? s.heap.objs.size = some (eSet w) := Heap.get?_push_size _ rfl
      have T0 : Shared.TypeIs { s with heap := s.heap.push (eSet w) } (.ref s.heap.objs.size) "set" := ⟨_, S0, rfl⟩
      have il := F.called_set.init.lookup; have ib := F.called_set.init.bind (.ref s.heap.objs.size)
      repeat (any_goals (first | assumption | wp_step))
      refine codeAny_mono (codeAny_call_builtin (R := wants (fun r s₂ => r = .none ∧ ∃ h' tk c, s₂ = { s with heap := h', toks := tk } ∧ SetR w h' s.heap.objs.size (fun j => decide (j ∈ ns)) c ∧ c ≤ ns.length ∧ (∀ b o, s.heap.get? b = some o → h'.get? b = some o)) E) F.called_set.init.plain F.entry_set_init (check_set_init_1 T0 ?_)) fun r₂ s₂ hr₂ => ?_
      · obtain ⟨ol, hol, hcl, nl, hdl⟩ := hl
        obtain ⟨ocls, odict, odata, oslots⟩ := ol
        simp only at hcl hdl
        subst hcl; subst hdl
        have hol' := Heap.get?_push_of_some (eSet w) hol
        have s1 := F.sub_list_set; have s2 := F.sub_list_frozenset
        have ne0 : (Value.type "list" == Value.type "dict") = false := by decide
        have hl1 : (s.heap.push (eSet w)).IsList l items := ⟨_, hol', rfl, nl, rfl⟩
        unfold Builtin.«set.__init__» noKeywords Builtin.Frozenset.updateFrom
        generalize hPI : pyIter = PI
        wp_walk
        subst hPI
        refine wpAny_pyIter_list hl1 (wpAny_bind (wpAny_runValue ?_))
        have lt1 : l < s.heap.objs.size := Heap.lt_size hol
        have h3 : A.in1.in1.in1.handled = none := by simp [hh]
        have sz : (s.heap.push (eSet w)).objs.size = s.heap.objs.size + 1 := Heap.size_push ..
        have neI : l ≠ (s.heap.push (eSet w)).objs.size := by rw [sz]; exact Nat.ne_of_lt (Nat.lt_succ_of_lt lt1)
        have nf : s.heap.objs.size ∉ [(s.heap.push (eSet w)).objs.size, l] := by
          rw [sz]
          simp only [List.mem_cons, List.not_mem_nil, or_false, not_or]
          exact ⟨Nat.ne_of_lt (Nat.lt_succ_self _), Nat.ne_of_gt lt1⟩
        have val : ∀ (i : Nat) (v : Value), items[i]? = some v → ∃ k t, ns[i]? = some k ∧ v = .int k t := fun i v hv => by
          have hi : i < ns.length := by rw [← hisz]; exact (Array.getElem?_eq_some_iff.mp hv).1
          obtain ⟨t, e⟩ := PyProof.Rows.IntsAre.int_at hit i v (by rw [Array.getElem?_toList]; exact hv)
          exact ⟨ns[i], t, List.getElem?_eq_getElem hi, by rw [e, List.getD_eq_getElem?_getD, List.getElem?_eq_getElem hi]; rfl⟩
        refine L2.set_update_ints ((Walks.list h3 _ l neI items).toS) s.heap.objs.size nf ns hisz hb val (items.size - 0) 0 _ (by omega) (Nat.zero_le _) ⟨⟨_, Heap.get?_push_size _ rfl, rfl, rfl⟩, (hl1.push _)⟩ ?st ?re
        case st => exact ⟨0, Nat.le_refl 0, L2.setR_new_at (Heap.get?_push_of_some _ S0)⟩
        case re =>
          intro s' c' hm hc' hS'
          obtain ⟨h', g2, d', tk', os'⟩ := s'
          obtain rfl : g2 = s.gens := hm.gens
          obtain rfl : d' = s.drawn := hm.drawn
          obtain rfl : os' = s.os := hm.os
          rw [hisz] at hc'
          refine wpAny_pure (show wpAny _ _ (ret Value.none) _ _ _ from wpAny_pure ⟨rfl, h', tk', c', rfl, hS', hc', fun b o e => ?_⟩)
          have b0 : b < s.heap.objs.size := Heap.lt_size e
          refine hm.heap b o ?_ (Heap.get?_push_of_some _ (Heap.get?_push_of_some _ e))
          simp only [List.mem_cons, List.not_mem_nil, or_false, not_or]
          rw [sz]
          exact ⟨Nat.ne_of_lt b0, Nat.ne_of_lt (Nat.lt_succ_of_lt b0)⟩
      · cases r₂ with
        | error e => exact hr₂
        | ok fl₂ =>
          cases fl₂ with
          | ret r =>
            obtain ⟨rfl, h', tk, c', rfl, q1, q2, q3⟩ := hr₂
            repeat (any_goals (first | assumption | wp_step))
            exact h _ _ _ q1 q2 q3
          | _ => exact hr₂.elim
    | _ => exact hr.elim
theorem lt_of_le {l : List Int} (h : l.Pairwise (· ≤ ·)) (d : l.Nodup) : l.Pairwise (· < ·) := by
  refine (h.and d).imp fun {x y} q => ?_
  have a := q.1
  have b : x ≠ y := q.2
  omega
theorem sorted_setN {S : Int → Bool} {n : Nat} {Q : Value → Shared → Prop} (R : SetR w s.heap a S n) (hh : A.handled = none) (hz : n ≤ sizeLine)
    (hQ : ∀ s' p (out : Array Value) (c : Nat) (ns : List Int), (∀ b o, s.heap.get? b = some o → s'.heap.get? b = some o) → s'.gens = s.gens → s'.os = s.os → s.heap.objs.size ≤ p → s'.heap.get? p = some (seqObj "list" out c) → IntsAre out.toList ns → ns.Pairwise (· < ·) → (∀ k, k ∈ ns ↔ S k = true) → ns.length = n → Q (.ref p) s') :
    wpAny (model P w) A (call (.builtin "sorted") [.ref a]) Q E s := by
  obtain ⟨o, es, ep, t, ho, hex, hd, g, nd, hm, hb, hf, hn, hr, hl⟩ := R
  refine Calls.call_function_entry kind_sorted plain_sorted entry_sorted (args_sorted1 _) ?_
  unfold Builtin.«sorted»
  refine wpAny_bind (m := checkCount "sorted" 1 1 _) (wpAny_pure (wpAny_bind (L2.collect_set (A := A.in1) hh ⟨o, ho, hex.1, hd⟩ hf hb hr hl fun s1 vs k1 hz1 g1 o1 pm => ?_)))
  have hvl : vs.length = n := by rw [pm.length_eq, List.length_map, Array.length_toList]; exact hn
  have hI : IntsAre vs (vs.map Builtin.Re.reRawOf) := L2.ints_of vs fun v hv => by
    obtain ⟨e, he, q⟩ := List.mem_map.mp (pm.mem_iff.mp hv)
    obtain ⟨k, tk, h1, _⟩ := g e he
    exact ⟨k, tk, by rw [← q]; exact h1⟩
  have pk : (vs.map Builtin.Re.reRawOf).Perm (es.toList.map L2.keyOf) := by
    have q := pm.map Builtin.Re.reRawOf
    rwa [List.map_map] at q
  have hvz : vs.length ≤ sizeLine := by rw [hvl]; exact hz
  refine wpAny_bind (wpAny_newList ?_ hvz)
  have hoL : (s1.heap.push (seqObj "list" vs.toArray 0)).get? s1.heap.objs.size = some (seqObj "list" vs.toArray 0) := Heap.get?_push_size _ rfl
  refine wpAny_bind (wpAny_holding (wpAny_call_entry slot_list_sort ⟨_, hoL, rfl⟩ entry_list_sort (SrtO.list_sort_ord SrtO.swo_int hoL hvz (fun h2 => SrtO.ints_sortable hI h2) fun out h1 h2 => ⟨_, rfl, ?_⟩) (args_list_sort _)))
  obtain ⟨a1, a2, a3⟩ := SrtO.ints_out hI h1 h2
  obtain ⟨c, hc⟩ := sortedHeap_at (vs := vs) (out := out.toArray) hoL
  have pn := a2.trans pk
  refine wpAny_pure ⟨_, rfl, hQ _ s1.heap.objs.size out.toArray c (out.map SrtO.iv) (fun b u e => ?_) g1 o1 hz1 hc a1 (lt_of_le a3 (pn.nodup_iff.mpr nd)) (fun k => by rw [pn.mem_iff, ← hm k]) (by rw [pn.length_eq, List.length_map, Array.length_toList]; exact hn)⟩
  have q := k1 b u e
  have hlt := Heap.lt_size q
  exact (sortedHeap_old (Nat.ne_of_lt hlt) (by rw [size_push']; exact Nat.lt_succ_of_lt hlt)).trans (Heap.get?_push_of_some _ q)
end
end Bx

set_option Elab.async false
set_option linter.all false
set_option maxRecDepth 100000
set_option autoImplicit false
set_option maxHeartbeats 4000000
/-! enumerate over a list or a tuple. -/
namespace PySem
open Sem (wp)
open AutoSeq1 (wpAny_loadPart')
theorem meets_enumerate_newB1 {v : Value} {o : Obj} {H : Heap → Prop} (B : Begins v o H) :
    Meets (Builtin.«enumerate.__new__» ⟨[.type "enumerate", v], []⟩) (fun _ R s => H s.heap ∧
      R (.ok (.ret (.ref (s.heap.push o).objs.size))) { s with heap := (s.heap.push o).push { cls := .type "enumerate", data := .fields #[.none, .bool false, .ref s.heap.objs.size, rawInt 0, .none, .none] } }) :=
  .of_wp fun prog w A R s h => by
    obtain ⟨hp, g, d, tk, os⟩ := s; obtain ⟨h1, h⟩ := h
    have hsub := sub_enumerate
    have q1 : ∀ {A' : Around} {E : Value → Shared → Prop} {Q : Value → Shared → Prop}, Q (.ref hp.objs.size) ⟨hp.push o, g, d, tk, os⟩ → wpAny (model prog w) A' (pyIter v) Q E ⟨hp, g, d, tk, os⟩ :=
      fun q => B.iter prog w _ _ ⟨hp, g, d, tk, os⟩ _ h1 q
    wp_walk using q1
    refine wpAny_stack_any fun st => wpAny_pure ?_
    split
    · rename_i c _ _ _ _ _
      cases (c == Value.type "enumerate")
      · wp_walk using q1
        exact ⟨_, rfl, h⟩
      · wp_walk using q1
        exact ⟨_, rfl, h⟩
    · wp_walk using q1
      exact ⟨_, rfl, h⟩
theorem enum_begins1 {prog : Program} {w : World} {A : Around} {E : Value → Shared → Prop} {s : Shared} {v : Value} {o : Obj} {H : Heap → Prop} {Q : Value → Shared → Prop} (B : Begins v o H) (h1 : H s.heap)
    (h : ∀ h', IsEnum h' (s.heap.objs.size + 1) s.heap.objs.size 0 .none → h'.get? s.heap.objs.size = some o → h'.objs.size = s.heap.objs.size + 2 →
      (∀ b o, s.heap.get? b = some o → h'.get? b = some o) → Q (.ref (s.heap.objs.size + 1)) { s with heap := h' }) :
    wpAny (model prog w) A (call (.type "enumerate") [v]) Q E s := by
  refine callType_new F.called_enumerate (by decide) (F.typeCall_enumerate_1 _) (F.newCall_enumerate_1 _) (fun obj => F.args_object_init_2 obj _) F.entry_enumerate_new
    (meets_enumerate_newB1 B) ⟨h1, ?_⟩
  have hz : (s.heap.push o).objs.size = s.heap.objs.size + 1 := Heap.size_push ..
  show _ ∧ _
  rw [hz]
  have he : IsEnum ((s.heap.push o).push { cls := .type "enumerate", data := .fields #[.none, .bool false, .ref s.heap.objs.size, rawInt 0, .none, .none] }) (s.heap.objs.size + 1) s.heap.objs.size 0 .none := by
    have := Heap.get?_push_size (s.heap.push o) (o := { cls := .type "enumerate", data := .fields #[.none, .bool false, .ref s.heap.objs.size, rawInt 0, .none, .none] }) rfl
    rw [hz] at this; exact this
  refine ⟨⟨_, he, rfl⟩, h _ he (Heap.get?_push_of_some _ (Heap.get?_push_size _ B.free)) (by rw [Heap.size_push, hz]) fun b o x => Heap.get?_push_of_some _ (Heap.get?_push_of_some _ x)⟩
end PySem
namespace Bx
open PySem PySem.Spec PyProof.Rows L2
/-- a sequence's items, numbered -/
def Ie (K : PySem.W.Frag) (k : Kd) (a : Addr) : L2.It :=
  ⟨fun i H => ∃ (xs : List V) (x : V), k.sq K H a xs ∧ xs[i]? = some x,
    fun i H v H' => ∃ T x, v = .ref T ∧ H T = none ∧ H' = upd H T (.tup [.int (i : Nat), x]) ∧ ∀ xs, k.sq K H a xs → xs[i]? = some x,
    fun i H => ∃ xs : List V, k.sq K H a xs ∧ xs.length = i⟩
theorem turn_e {P : Program} {w : World} {K : PySem.W.Frag} {elts : List Expr} {kk : Nat} {tpos : Pos} {k : Kd} {a e it : Addr} (hei : e ≠ it) (hea : e ≠ a) (n1 : a ≠ it) :
    Turn P w K (.Tuple elts kk tpos) (Ie K k a) [e, it] e (fun i h => (∃ old, IsEnum h e it (0 + (i : Int)) old) ∧ k.it it a i h) where
  mem := by simp
  obj := fun i h st c hc => by
    obtain ⟨⟨old, he⟩, h1⟩ := st
    have e' : c = e ∨ c = it := by simpa using hc
    rcases e' with q | q
    · rw [q]; exact ⟨_, he, fun v q => nomatch q⟩
    · rw [q]; exact k.obj h1
  keep := fun i h h' st kp => by
    obtain ⟨⟨old, he⟩, h1⟩ := st
    exact ⟨⟨old, kp e (by simp) _ he⟩, k.at h1 fun o q => kp it (by simp) o q⟩
  item := by
    intro X hP hw hK hc i pins s σ H E I hf st hg
    subst hP hw hK
    obtain ⟨he, h1⟩ := st
    obtain ⟨xs, x, hqx, hx⟩ := hg
    obtain ⟨its, rv, p, la⟩ := k.of I hqx
    obtain ⟨u, hu, ru⟩ := rv.get hx
    have hh : X.A.in1.handled = none := I.ok.hd hc
    have hef : e ∉ [it, a] := by simp only [List.mem_cons, List.not_mem_nil, or_false, not_or]; exact ⟨hei, hea⟩
    have W := PySem.WalksT.enumFrom (prog := X.prog) (w := X.w) 0 (k.draws hh it a n1 its.toArray) e hei hef (by simp)
    have l1 : i < its.length := (List.getElem?_eq_some_iff.mp hu).1
    refine W.item i s _ E (by simpa only [List.size_toArray] using l1) ⟨he, ⟨h1, p⟩⟩ fun T vals h' tk pv hT tT mid kp => ?_
    obtain ⟨t, x1, q1, rfl⟩ := pv
    have e1 : x1 = u := by
      have z : its[i]? = some x1 := by simpa using q1
      rw [hu] at z
      exact (Option.some.inj z).symm
    subst e1
    refine ⟨_, rfl, W.go elts kk tpos i T { s with heap := h', toks := tk } _ E mid fun h'' st'' kp2 => ?_⟩
    have tT2 : h''.IsTuple T #[.int (0 + (i : Int)) t, x1] := tT.at fun o e => kp2 T o (W.apart i T h' mid) e
    have new : ObjOk X.prog X.w (upd H T (.tup [.int (i : Nat), x])) h'' T (.tup [.int (i : Nat), x]) := ⟨by show 2 ≤ sizeLine; decide, [.int (0 + (i : Int)) t, x1], .cons ⟨t, by rw [Int.zero_add]⟩ (.cons ru .nil), tT2⟩
    have I1 : Inv X pins σ (upd H T (.tup [.int (i : Nat), x])) { s with heap := h'', toks := tk } :=
      I.turnedNew (ch := [e, it]) (fun c o hb q => kp2 c o hb (kp c o hb q)) hf hT new
    obtain ⟨he', s1⟩ := st''
    refine ⟨.ref T, _, I1, rfl, ⟨T, x, rfl, I.hok.fresh hT, rfl, fun l hl => by rw [k.inj I hl hqx]; exact hx⟩, ⟨he', s1.1⟩, fun c hcm => ?_⟩
    have hcs : c < s.heap.objs.size := by
      have live : ∃ o, s.heap.get? c = some o := by
        have e' : c = e ∨ c = it := by simpa using hcm
        obtain ⟨_, he⟩ := he
        rcases e' with q | q
        · rw [q]; exact ⟨_, he⟩
        · rw [q]; obtain ⟨o, e, _⟩ := k.obj h1; exact ⟨o, e⟩
      obtain ⟨o, e⟩ := live
      exact Heap.lt_size e
    rw [upd_ne (Nat.ne_of_lt (Nat.lt_of_lt_of_le hcs hT))]
    exact (hf c hcm).1
  done := by
    intro X hP hw hK hc i pins s σ H E I hf st hg
    subst hP hw hK
    obtain ⟨he, h1⟩ := st
    obtain ⟨xs, hqx, hend⟩ := hg
    obtain ⟨its, rv, p, _⟩ := k.of I hqx
    have hh : X.A.in1.handled = none := I.ok.hd hc
    have hef : e ∉ [it, a] := by simp only [List.mem_cons, List.not_mem_nil, or_false, not_or]; exact ⟨hei, hea⟩
    have W := PySem.WalksT.enumFrom (prog := X.prog) (w := X.w) 0 (k.draws hh it a n1 its.toArray) e hei hef (by simp)
    have e1 : its.toArray.size = i := by simp only [List.size_toArray]; rw [← rv.length]; exact hend
    exact W.done s _ E (by rw [e1]; exact ⟨he, ⟨h1, p⟩⟩) fun h' tk kp => ⟨rfl, I.turnedL (ch := [e, it]) (fun c o hb q => kp c o hb q) hf⟩
  self := fun A i s Q E st h => by
    obtain ⟨⟨old, he⟩, _⟩ := st
    exact wpAny_pyIter_enum he h
def iEn (K : PySem.W.Frag) (ta : TA) : TI := fun σ H R => ta σ H fun vs H1 => ∃ a xs k, vs = [.ref a] ∧ Kd.sq k K H1 a xs ∧ R (Ie K k a) H1
theorem pi_e {X : Cx} {e : Expr} {ta : TA} {p pos tpos : Pos} {elts : List Expr} {kk : Nat} (hg : Gl X "enumerate") (hm : X.mg "enumerate" = none) (ha : PA X [e] ta) (hs : starEach [e] X.env = [(false, eval e X.env)] := by rfl) :
    PI X (.Tuple elts kk tpos) (.Call (.Name "enumerate" p) [e] [] pos) (iEn X.K ta) := by
  refine ⟨fun pins s σ H R I h => ?_⟩
  refine Call_ (ld_blt I hg hm boot_enumerate (PyProof.Rows.callWith_type1 (thn (ha.run pos pins s σ H _ I h) fun us s1 ⟨vs, H1, I1, r1, q1⟩ => ?_) hs rfl))
  obtain ⟨a, xs, k, rfl, hq, q⟩ := q1
  obtain ⟨u1, rfl, ra⟩ := vals1 r1
  cases (show u1 = Value.ref a from ra)
  obtain ⟨its, rv, p1, la⟩ := k.of I1 hq
  refine PySem.enum_begins1 (k.begins a its.toArray) p1 fun h' he o1 hsz hk => wpAny_pyIter_enum he ?_
  have I2 : Inv X pins σ H1 { s1 with heap := h' } := I1.kept (t' := s1.toks) hk
  refine ⟨s1.heap.objs.size + 1, [s1.heap.objs.size + 1, s1.heap.objs.size], _, _, H1, rfl, I2, turn_e (Nat.succ_ne_self _) (Nat.ne_of_gt (Nat.lt_succ_of_lt la)) (Nat.ne_of_lt la), ⟨⟨.none, he⟩, k.first o1⟩, fun b hb => ?_, q⟩
  have e' : b = s1.heap.objs.size + 1 ∨ b = s1.heap.objs.size := by simpa using hb
  have hle : s1.heap.objs.size ≤ b := by
    rcases e' with z | z
    · rw [z]; exact Nat.le_add_right _ _
    · rw [z]; exact Nat.le_refl _
  exact I1.fpOk hle (I1.hok.fresh hle)
end Bx

set_option Elab.async false
set_option linter.all false
set_option maxRecDepth 100000
set_option autoImplicit false
set_option maxHeartbeats 4000000
/-! a[::-1] of a list, of a tuple; a list unpacked. -/
namespace Bx
open PySem PySem.Spec PyProof.Rows L2
theorem adjust_rev (n : Nat) : Builtin.Slice.sliceAdjust none none (-1) (n : Int) = ((n : Int) - 1, -1) := by
  unfold Builtin.Slice.sliceAdjust
  simp
theorem places_rev (n : Nat) : Builtin.Slice.slicePlaces ((n : Int) - 1) (-1) (-1) = n := by
  unfold Builtin.Slice.slicePlaces
  simp
  split <;> omega
theorem pick_rev (xs : Array Value) : ((List.range xs.size).filterMap fun (m : Nat) => xs[(((xs.size : Int) - 1) + (m : Int) * (-1)).toNat]?).toArray = xs.toList.reverse.toArray := by
  have e : (fun (m : Nat) => xs[(((xs.size : Int) - 1) + (m : Int) * (-1)).toNat]?) = (fun k => xs[k]?) ∘ fun m => xs.size - 1 - m := by
    funext m
    have : (((xs.size : Int) - 1) + (m : Int) * (-1)).toNat = xs.size - 1 - m := by omega
    rw [this]
    rfl
  rw [e, ← List.filterMap_map, PySem.W.krv_range, List.filterMap_reverse, PySem.W.krv_all]
section
variable {prog : Program} {w : World} {A : Around} {E : Value → Shared → Prop} {s : Shared}
theorem sliceApplied_rev {sl : Addr} {vl vu vs : Value} {n : Nat} {Q : Int × Int × Nat → Shared → Prop} (hs : s.heap.IsSliceOf sl vl vu vs) (pl : IsPart vl none) (pu : IsPart vu none) (pk : IsPart vs (some (-1)))
    (h : Q ((n : Int) - 1, -1, n) s) : wpAny (model prog w) A (Builtin.Slice.sliceApplied (.ref sl) (pure (n : Int))) Q E s := by
  obtain ⟨os, hos, hcs, hds⟩ := id hs
  unfold Builtin.Slice.sliceApplied Builtin.Slice.sliceFields
  refine wpAny_bind (wpAny_bind (wpAny_field hos hds (x := vl) rfl (wpAny_bind (wpAny_field hos hds (x := vu) rfl (wpAny_bind (wpAny_field hos hds (x := vs) rfl (wpAny_pure ?_)))))))
  refine wpAny_bind (HT.slicePart_ pk ?_)
  show wpAny _ _ (if ((-1 : Int) == 0) = true then _ else _) _ _ s
  rw [if_neg (by decide)]
  refine wpAny_bind (HT.slicePart_ pl (wpAny_bind (HT.slicePart_ pu (wpAny_bind (wpAny_pure ?_)))))
  show wpAny _ _ (match Builtin.Slice.sliceAdjust none none (-1) (n : Int) with | (lo, hi) => pure (lo, (-1 : Int), Builtin.Slice.slicePlaces lo hi (-1))) _ _ s
  rw [adjust_rev n]
  show wpAny _ _ (pure ((n : Int) - 1, (-1 : Int), Builtin.Slice.slicePlaces ((n : Int) - 1) (-1) (-1))) _ _ s
  rw [places_rev]
  exact wpAny_pure h
theorem getItem_tuple_rev {t sl : Addr} {items : Array Value} {vl vu vs : Value} {Q : Value → Shared → Prop} (ht : IsTup s.heap t items) (hs : s.heap.IsSliceOf sl vl vu vs) (pl : IsPart vl none) (pu : IsPart vu none) (pk : IsPart vs (some (-1)))
    (h : Q (.ref s.heap.objs.size) { s with heap := s.heap.push { cls := .type "tuple", data := .seq items.toList.reverse.toArray } })
    (hsz : items.size ≤ sizeLine) : wpAny (model prog w) A (getItem (.ref t) (.ref sl)) Q E s := by
  have htake : sizeOk (.seq items.toList.reverse.toArray) := by
    show items.toList.reverse.toArray.size ≤ sizeLine
    rw [List.size_toArray, List.length_reverse, Array.length_toList]
    exact hsz
  obtain ⟨os, hos, hcs, hds⟩ := id hs
  have hTs : s.TypeIs (.ref sl) "slice" := ⟨os, hos, hcs⟩
  unfold getItem
  try with_reducible refine wpAny_holding ?_
  first | refine wpAny_bind (wpAny_pure ?_) | skip
  refine wpAny_bind (wpAny_sequenceKey ht.typeIs (by decide) ?_)
  refine wpAny_bind (wpAny_callSpecial?_slot (name := Str.ofString "__getitem__") ht.typeIs PyProof.Rows.slot_tuple_getitem
    (wpAny_call_entry PyProof.Rows.slot_tuple_getitem ht.typeIs entry_tuple_getitem ?_ (args_tuple_getitem _ _)))
  show wpAny _ _ (Builtin.Tuple.tupleItemsOf (.ref t) >>= _) _ _ s
  refine wpAny_bind (tupleItemsOf_ ht ?_)
  refine wpAny_bind (wpAny_typeOf hTs ?_)
  rw [if_pos (by decide)]
  refine wpAny_bind (sliceApplied_rev hs pl pu pk ?_)
  have hno : ¬ ((((items.size : Int) - 1) == 0 && (-1 : Int) == 1 && items.size == items.size) = true) := by simp
  show wpAny _ _ (if (((items.size : Int) - 1) == 0 && (-1 : Int) == 1 && items.size == items.size) = true then _ else _) _ _ s
  rw [if_neg hno, pick_rev]
  first
    | exact wpAny_bind (m := Builtin.Tuple.tupleExact _) (wpAny_newObj_type (wpAny_pure ⟨_, rfl, wpAny_pure h⟩) htake)
    | exact wpAny_bind (m := Builtin.Tuple.tupleExact _) (wpAny_newObj_type (wpAny_bind (wpAny_pure (wpAny_pure ⟨_, rfl, wpAny_pure h⟩))) htake)
    | exact wpAny_bind (wpAny_bind (m := Builtin.Tuple.tupleExact _) (wpAny_newObj_type (wpAny_pure (wpAny_pure ⟨_, rfl, wpAny_pure h⟩)) htake))
    | exact wpAny_bind (wpAny_bind (m := Builtin.Tuple.tupleExact _) (wpAny_newObj_type (wpAny_pure ⟨_, rfl, wpAny_pure h⟩) htake))
end
def tRevA (K : PySem.W.Frag) (te : TE) : TE := fun σ H Q => te σ H fun x H1 => (∃ a xs, x = .ref a ∧ SqL K H1 a xs ∧ ∀ p, H1 p = none → Q (.ref p) (upd H1 p (.lst xs.reverse))) ∨ (∃ a xs, x = .ref a ∧ SqT K H1 a xs ∧ ∀ p, H1 p = none → Q (.ref p) (upd H1 p (.tup xs.reverse)))
theorem pe_revA {X : Cx} {e : Expr} {te : TE} {k : Nat} {p1 p2 p3 pos : Pos} (he : PE X e te) : PE X (.Subscript e (.Slice none none (some (.UnaryOp .USub (.Constant (.int 1) k p1) p2)) p3) pos) (tRevA X.K te) := by
  refine ⟨fun pins s σ H Q I h => ?_⟩
  refine Subscript_ (thn (he.run pins s σ H _ I h) fun v s1 ⟨x, H1, I1, r1, q1⟩ => ?_)
  have hst : PO X (some (.UnaryOp .USub (.Constant (.int 1) k p1) p2)) (tPart (tUn (rU fun i => .int (-i)) (tC (.int 1)))) := po_some (pe_un un_neg pe_int)
  refine wpAny_Slice (thn (po_none.run pins s1 σ H1 (fun o H2 => o = none ∧ H2 = H1) I1 ⟨rfl, rfl⟩) fun vl s2 ⟨l, H2, I2, pl, el, e2⟩ => ?_)
  subst el e2
  refine thn (po_none.run pins s2 σ H2 (fun o H3 => o = none ∧ H3 = H2) I2 ⟨rfl, rfl⟩) fun vu s3 ⟨u, H3, I3, pu, eu, e3⟩ => ?_
  subst eu e3
  refine thn (hst.run pins s3 σ H3 (fun o H4 => o = some (-1) ∧ H4 = H3) I3 ⟨1, rfl, -1, rfl, rfl, rfl⟩) fun vs s4 ⟨o, H4, I4, ps, eo, e4⟩ => ?_
  subst eo e4
  have I5 : Inv X pins σ H4 { s4 with heap := s4.heap.push { cls := .type "slice", data := .fields #[vl, vu, vs] } } := I4.kept (t' := s4.toks) fun b ob q => Heap.get?_push_of_some _ q
  rcases q1 with ⟨a, xs, ex, hx, q⟩ | ⟨a, xs, ex, hx, q⟩
  · subst ex
    cases r1
    obtain ⟨its, r, ht, hz⟩ := I5.list hx
    have hlen := r.length
    show wpAny (model X.prog X.w) X.A (subscriptTail e (.Slice none none (some (.UnaryOp .USub (.Constant (.int 1) k p1) p2)) p3) (.ref a) (.ref s4.heap.objs.size)) (EP X pins σ Q) X.xe { s4 with heap := s4.heap.push { cls := .type "slice", data := .fields #[vl, vu, vs] } }
    refine tail_any (ops := [.ref a, .ref s4.heap.objs.size]) ht.isList.typeIs (PySem.slot_list_getitem.lookup) ?_ (by with_unfolding_all rfl)
    refine wpAny_getItem_list_slice ht.isList (Heap.IsSliceOf.new _ vl vu vs) pl pu ps (by decide) ?_ (by rw [List.size_toArray]; omega)
    rw [PySem.W.krv_pick]
    refine ⟨.ref _, _, I5.laid (t' := s4.toks) (o := .lst xs.reverse) (fun b ob q => Heap.get?_push_of_some _ q) (Nat.le_refl _) ?_, rfl, q _ (I5.hok.fresh (Nat.le_refl _))⟩
    exact ⟨by rw [List.length_reverse]; exact hz, _, 0, r.reverse, Heap.get?_push_size _ rfl⟩
  · subst ex
    cases r1
    obtain ⟨its, r, ht, hz⟩ := I5.tuple hx
    have hlen := r.length
    show wpAny (model X.prog X.w) X.A (subscriptTail e (.Slice none none (some (.UnaryOp .USub (.Constant (.int 1) k p1) p2)) p3) (.ref a) (.ref s4.heap.objs.size)) (EP X pins σ Q) X.xe { s4 with heap := s4.heap.push { cls := .type "slice", data := .fields #[vl, vu, vs] } }
    refine tail_any (ops := [.ref a, .ref s4.heap.objs.size]) ht.typeIs (PyProof.Rows.slot_tuple_getitem.lookup) ?_ (by with_unfolding_all rfl)
    refine getItem_tuple_rev ht (Heap.IsSliceOf.new _ vl vu vs) pl pu ps ?_ (by rw [List.size_toArray]; omega)
    refine ⟨.ref _, _, I5.laid (t' := s4.toks) (o := .tup xs.reverse) (fun b ob q => Heap.get?_push_of_some _ q) (Nat.le_refl _) ?_, rfl, q _ (I5.hok.fresh (Nat.le_refl _))⟩
    exact ⟨by rw [List.length_reverse]; exact hz, _, r.reverse, IsTup.new _ _⟩
end Bx

set_option Elab.async false
set_option linter.all false
set_option maxRecDepth 100000
set_option autoImplicit false
set_option maxHeartbeats 4000000
/-! xs * n; methods that read. -/
namespace Bx
open PySem PySem.Spec PyProof.Rows L2
theorem tuple_mul1 (l : Addr) (items : Array Value) (n : Nat) (dd : Option Addr) (sl : Array (Option Value)) (u : Tok) :
    Meets (Builtin.«tuple.__mul__» ⟨[.ref l, .int 1 u], []⟩) (fun _ R s => s.heap.get? l = some { cls := .type "tuple", dict := dd, data := .seq items n, slots := sl } ∧ R (.ok (.ret (Value.ref l))) s) :=
  .of_wp fun prog w A R s h => by
    obtain ⟨hp, g, d, tk, os⟩ := s
    obtain ⟨hl, h⟩ := h
    have f1 := AutoSeq1.idx_int
    have c1 : (items.isEmpty || (1 : Int) == 1) = true := by simp
    wp_walk using wpAny_loadPart' hl
    repeat (first
      | (refine wpAny_ite_true (decide_eq_true (by rw [c1])) ?_; wp_walk using wpAny_loadPart' hl)
      | (refine wpAny_ite_true c1 ?_; wp_walk using wpAny_loadPart' hl))
    exact ⟨_, rfl, h⟩
theorem shaped_ok {d : PyData} (h : okD d = true) (h2 : d.canLay0 = true) : SeqAt.shaped d = true := by
  obtain ⟨p, z⟩ := okD_of h
  unfold SeqAt.shaped
  rw [h2, decide_eq_true z]
  rfl
section
variable {X : Cx}
theorem op_repT1 : OpR X (binaryOp .Mult) (fun x y H Q => ∃ l xs, x = .ref l ∧ y = .int 1 ∧ SqT X.K H l xs ∧ Q (.ref l) H) := by
  intro pins s σ H x y v u Q I rx ry h
  obtain ⟨l, xs, rfl, rfl, hT, q⟩ := h
  cases rx
  obtain ⟨t, rfl⟩ := ry
  obtain ⟨its, r, ⟨⟨cls, dd, data, sl⟩, ho, hc, n, hd⟩, hs⟩ := I.tuple hT
  simp only at hc hd
  subst hc hd
  exact wpAny_binaryOp_repeat_ref (T := "tuple") (U := "int") (by decide) ⟨_, ho, rfl⟩ (fun s' => typeIs_int s' 1 t) noFill_tuple_mul PySem.F.fills_int_mul PySem.F.slot_int_rmul repeat_tuple PySem.F.slot_int_index.lookup
    (call_meets PySem.F.slot_int_rmul (typeIs_int s 1 t) PySem.F.entry_int_rmul (PySem.F.args_int_rmul_2 _ _) (int_rmul_tuple 1 t l its.toArray n dd sl)
      ⟨ho, rfl, ⟨_, ho, rfl⟩, call_meets PySem.F.slot_tuple_mul ⟨_, ho, rfl⟩ PySem.F.entry_tuple_mul (PySem.F.args_tuple_mul_2 _ _) (tuple_mul1 l its.toArray n dd sl t) ⟨ho, ⟨.ref l, H, I, rfl, q⟩⟩⟩)
/-- so many times -/
def rRepD (K : PySem.W.Frag) : R2 := fun x y H Q => (∃ l k vs, x = .ref l ∧ y = .int k ∧ H l = some (.lst vs) ∧ -4611686018427387904 ≤ k ∧ k < 4611686018427387904 ∧ vs.length * k.toNat ≤ SZ ∧ ∀ p, H p = none → Q (.ref p) (upd H p (.lst (List.replicate k.toNat vs).flatten))) ∨
  (∃ l k vs, x = .ref l ∧ y = .int k ∧ SqT K H l vs ∧ vs ≠ [] ∧ 1 ≤ k ∧ k ≤ 1000 ∧ vs.length ≤ 1000 ∧ (k = 1 → Q (.ref l) H) ∧ ∀ p, H p = none → Q (.ref p) (upd H p (.tup (List.replicate k.toNat vs).flatten)))
theorem op_repD : OpR X (binaryOp .Mult) (rRepD X.K) := by
  intro pins s σ H x y v u Q I rx ry h
  rcases h with ⟨l, k, vs, rfl, rfl, hl, h1, h2, hz, q⟩ | ⟨l, k, vs, rfl, rfl, hl, hn, h1, h2, hz, q1, q⟩
  · exact op_rep pins s σ H _ _ v u Q I rx ry ⟨l, k, vs, rfl, rfl, hl, by omega, by omega, by rw [← SZ_eq]; exact hz, q⟩
  · by_cases e : k = 1
    · subst e
      exact op_repT1 pins s σ H _ _ v u Q I rx ry ⟨l, vs, rfl, rfl, hl, q1 rfl⟩
    · exact op_repT pins s σ H _ _ v u Q I rx ry ⟨l, k, vs, rfl, rfl, hl, hn, by omega, h2, hz, q⟩
theorem RpA.rep {K : PySem.W.Frag} {F : Hp} {ds : List PyData} {vs : List V} (h : RpA K F ds vs) : ∀ n : Nat, RpA K F (List.replicate n ds).flatten (List.replicate n vs).flatten
  | 0 => by simpa using RpA.nil
  | n + 1 => by
    rw [List.replicate_succ, List.replicate_succ, List.flatten_cons, List.flatten_cons]
    exact h.app (RpA.rep h n)
/-! methods that read -/
def meId : Me → String
  | .lidx => "list.index"
  | .lcnt => "list.count"
def rMe (K : PySem.W.Frag) (m : Me) : V → List V → Hp → VK → Prop := fun x vs H Q => ∃ F d ds w, Same F H ∧ Vw K F H d x ∧ VwL K F H ds vs ∧ meD m d ds = some w ∧ Res K F H w Q
theorem findIdx_facts {xs : List PyData} {y : PyData} {j : Nat} (h : xs.findIdx? (fun x => PyData.eqv x y) = some j) : ∃ z, xs[j]? = some z ∧ PyData.eqv z y = true ∧ ∀ m z', m < j → xs[m]? = some z' → PyData.eqv z' y = false := by
  obtain ⟨h1, h2, h3⟩ := List.findIdx?_eq_some_iff_getElem.mp h
  refine ⟨xs[j], List.getElem?_eq_getElem h1, h2, fun m z' hm hz => ?_⟩
  have := h3 m hm
  rw [List.getElem?_eq_getElem (by omega)] at hz
  cases hz
  simpa using this
theorem mt_me (m : Me) (hu : X.A.units + 100 < cLine) : MtR X (meId m) (rMe X.K m) := by
  intro pins s σ H x vs v us Q I rx rv h
  obtain ⟨F, d, ds, w, le, hx, hy, hm, q⟩ := h
  unfold meD at hm
  split at hm
  · rename_i xs y
    split at hm
    · rename_i ok
      have ok2 : (okD (.list xs) = true ∧ okD y = true) ∧ PyData.canLayAll0 xs = true ∧ y.canLay0 = true := by simpa using ok
      have ok' := ok2.1
      split at hm
      · rename_i j hj
        cases hm
        obtain ⟨b, rfl, hb⟩ := VwL.one hy
        obtain ⟨z, e1, e2, e3⟩ := findIdx_facts hj
        have dl := rp_dp _ _ (okD_of ok'.1).1 (hx.rp le)
        obtain ⟨a, as, rfl, _, _⟩ := hx.lst le
        exact mt_indexD (by omega) pins s σ H _ _ v us Q I rx rv ⟨a, b, y, xs, j, z, rfl, rfl, dl, rp_dp _ _ (okD_of ok'.2).1 (hb.rp le), shaped_ok ok'.1 (show PyData.canLayAll0 xs = true from ok2.2.1), shaped_ok ok'.2 ok2.2.2, e1, e2, e3, q.same le rfl⟩
      · cases hm
    · cases hm
  · rename_i xs y
    split at hm
    · rename_i ok
      have ok' : okD (.list xs) = true ∧ okD y = true := by simpa using ok
      cases hm
      obtain ⟨b, rfl, hb⟩ := VwL.one hy
      obtain ⟨a, as, rfl, sa, ra⟩ := hx.lst le
      have wa := hx.rp le
      cases rx
      obtain ⟨u, rfl, ru⟩ := rv.one
      obtain ⟨its, r1, p1, z1⟩ := I.list sa
      obtain ⟨p2, z2⟩ := okD_of ok'.1
      obtain ⟨p3, z3⟩ := okD_of ok'.2
      have pl : PyData.plainAll xs = true := by simpa [PyData.plain] using p2
      obtain ⟨bs, rd⟩ := rp_reads I p3 (hb.rp le) ru
      have ra2 : RpA X.K H xs as := RpA.mono le _ _ ra
      obtain ⟨cs, rds⟩ := rpA_reads I pl ra2 r1
      have dm : min (PyData.depthAll xs) y.depth ≤ y.depth := Nat.min_le_right _ _
      exact SeqAt.count_list_data p1.isList (show ReadsAll s.heap its.toArray.toList xs cs from rds) rd pl p3 (by omega) ⟨.int _, _, I.tok _, ⟨_, rfl⟩, q.same le rfl⟩
    · cases hm
  · cases hm
theorem slot_me (m : Me) : Slot "list" (meN m) (meId m) := by
  cases m
  · exact PySem.F.slot_list_index
  · exact PySem.F.slot_list_count
theorem ty_me (m : Me) : typeOf (.builtin (meId m)) = pure (.type "method_descriptor") := by cases m <;> rfl
end
section
variable {C : Call} {K : PySem.W.Frag} {F H F1 H1 F2 H2 : Hp} {r r1 r2 : Env} {σ : SG}
theorem core_rep {a b : Ex} {Q : VK} (h : tE C K (.rep a b) σ H Q) : tOp (rRepD K) (tE C K a) (tE C K b) σ H Q := by
  obtain ⟨F, r, w, r', wd, he, q⟩ := h
  simp only [evE] at he
  split at he
  · rename_i x r1 h1
    split at he
    · rename_i k r2 h2
      split at he
      · rename_i u h3
        simp only [Option.some.injEq, Prod.mk.injEq] at he
        obtain ⟨rfl, rfl⟩ := he
        refine tE_two wd h1 h2 fun v z F2 H2 f w2 sub p1 p2 n1 _ => ?_
        have ez : z = .int k := p2
        subst ez
        have hres : Res K F2 H2 u Q := Res.of f w2 sub q
        have tup : (match see r2 x with
            | some (.tuple xs) => if xs ≠ [] ∧ 1 ≤ k ∧ k ≤ 1000 ∧ xs.length ≤ 1000 then some (Sl.fr (.tuple (List.replicate k.toNat xs).flatten)) else none
            | _ => none) = some u → rRepD K v (.int k) H2 Q := fun h => by
          split at h
          · rename_i xs hs
            split at h
            · rename_i hc
              cases h
              obtain ⟨b, vs, rfl, sa, ra⟩ := (see_ok w2 p1 hs).tup
              have hl := ra.len
              refine .inr ⟨b, k, vs, rfl, rfl, SqT.mono w2.le sa, fun e => hc.1 (by rw [e] at hl; exact List.eq_nil_of_length_eq_zero hl), hc.2.1, hc.2.2.1, by rw [← hl]; exact hc.2.2.2, fun e => ?_, fun c hc' => hres.newT w2.le (ra.rep k.toNat) hc'⟩
              subst e
              refine hres.same w2.le ⟨b, vs, rfl, sa, ?_⟩
              have z := ra.rep 1
              simpa using z
            · cases h
          · cases h
        unfold repD at h3
        split at h3
        · rename_i xs
          split at h3
          · rename_i hc
            cases h3
            obtain ⟨b, rfl, o, _⟩ := p1
            obtain ⟨_, vs, o1, o2⟩ := o
            exact .inl ⟨b, k, vs, rfl, rfl, o1, hc.1, hc.2.1, by rw [← o2.len]; exact hc.2.2, fun c hc' => hres.newL w2.le (o2.rep k.toNat) hc'⟩
          · cases h3
        · exact tup h3
      · cases he
    · cases he
  · cases he
theorem core_me {m : Me} {a : Ex} {es : Exs} {Q : VK} (h : tE C K (.me m a es) σ H Q) : tBM K "list" (rMe K m) (tE C K a) (tEs C K es) σ H Q := by
  obtain ⟨F, r, w, r', wd, he, q⟩ := h
  simp only [evE] at he
  split at he
  · rename_i x r1 h1
    split at he
    · rename_i xs0 h0
      split at he
      · rename_i ws r2 h2
        split at he
        · rename_i d ds h3 h4
          split at he
          · rename_i u h5
            simp only [Option.some.injEq, Prod.mk.injEq] at he
            obtain ⟨rfl, rfl⟩ := he
            refine ⟨F, r, x, r1, wd, h1, fun v F1 H1 p => ⟨?_, F1, r1, ws, r2, p.wd, h2, fun vs F2 H2 p2 => ?_⟩⟩
            · obtain ⟨b, as, rfl, sa, _⟩ := (see_ok p.wd p.rp h0).lst p.wd.le
              exact .inl ⟨rfl, as, sa⟩
            · have f := p.fr.trans p2.fr fun c k => .inl (p.sub c k)
              exact ⟨F2, d, ds, u, p2.wd.le, see_ok p2.wd (p.rp.go p2.fr p2.sub) h3, seeL_ok p2.wd p2.rp h4, h5, Res.of f p2.wd (fun c k => p.sub c (p2.sub c k)) q⟩
          · cases he
        · cases he
      · cases he
    · cases he
  · cases he
end
end Bx

set_option Elab.async false
set_option linter.all false
set_option maxRecDepth 100000
set_option autoImplicit false
set_option maxHeartbeats 2000000
/-! Targets; what is walked; comprehensions. -/
namespace Bx
open PySem PySem.Spec PyProof.Rows L2

def Exs.len : Exs → Nat
  | .nil => 0
  | .cons _ es => es.len + 1
section
variable {C : Call} {K : PySem.W.Frag} {F H F1 H1 F2 H2 : Hp} {r r1 r2 : Env} {σ σ1 : SG}
theorem core_rv {a : Ex} {Q : VK} (h : tE C K (.rv a) σ H Q) : tRevA K (tE C K a) σ H Q := by
  obtain ⟨F, r, w, r', wd, he, q⟩ := h
  simp only [evE] at he
  split at he
  · rename_i x r1 h1
    split at he
    · rename_i d h2
      split at he
      · rename_i u h3
        simp only [Option.some.injEq, Prod.mk.injEq] at he
        obtain ⟨rfl, rfl⟩ := he
        refine ⟨F, r, x, r1, wd, h1, fun v F1 H1 p => ?_⟩
        have hv := see_ok p.wd p.rp h2
        have hres : Res K F1 H1 u Q := Res.of p.fr p.wd p.sub q
        unfold revD at h3
        split at h3
        · cases h3
          obtain ⟨b, vs, rfl, sa, ra⟩ := hv.lst p.wd.le
          exact .inl ⟨b, vs, rfl, sa, fun c hc => hres.newL p.wd.le ra.rev hc⟩
        · cases h3
          obtain ⟨b, vs, rfl, sa, ra⟩ := hv.tup
          exact .inr ⟨b, vs, rfl, SqT.mono p.wd.le sa, fun c hc => hres.newT p.wd.le ra.rev hc⟩
        · cases h3
      · cases he
    · cases he
  · cases he
/-! ### slots hidden, put back -/
theorem hide_len : ∀ {l : List Nat} {r : Env}, (hide r l).length = r.length
  | [], r => rfl
  | i :: l, r => by
    unfold hide
    rw [hide_len, List.length_set]
theorem hide_out : ∀ {l : List Nat} {r : Env} {j : Nat}, j ∉ l → (hide r l)[j]? = r[j]?
  | [], r, j, h => rfl
  | i :: l, r, j, h => by
    simp only [List.mem_cons, not_or] at h
    unfold hide
    rw [hide_out h.2, List.getElem?_set_ne fun e => h.1 e.symm]
theorem hide_in : ∀ {l : List Nat} {r : Env} {j : Nat} {x : Sl}, j ∈ l → (hide r l)[j]? = some x → x = .no
  | [], r, j, x, h, e => by simp at h
  | i :: l, r, j, x, h, e => by
    unfold hide at e
    by_cases hj : j ∈ l
    · exact hide_in hj e
    · rw [hide_out hj] at e
      have : j = i := by simpa [hj] using h
      subst this
      rcases set_get e with ⟨_, e⟩ | ⟨n, _⟩
      · exact e
      · exact (n rfl).elim
theorem hide_get {l : List Nat} {r : Env} {j : Nat} {x : Sl} (h : (hide r l)[j]? = some x) : (j ∈ l ∧ x = .no) ∨ (j ∉ l ∧ r[j]? = some x) := by
  by_cases hj : j ∈ l
  · exact .inl ⟨hj, hide_in hj h⟩
  · exact .inr ⟨hj, by rw [← hide_out hj]; exact h⟩
theorem kill_hide : ∀ {l : List Nat} {r : Env}, killS r l = hide r l
  | [], r => rfl
  | i :: l, r => by
    unfold killS hide
    exact kill_hide
theorem back_len : ∀ {l : List Nat} {o r : Env}, (back o r l).length = r.length
  | [], o, r => rfl
  | i :: l, o, r => by
    unfold back
    rw [back_len, List.length_set]
theorem back_out : ∀ {l : List Nat} {o r : Env} {j : Nat}, j ∉ l → (back o r l)[j]? = r[j]?
  | [], o, r, j, h => rfl
  | i :: l, o, r, j, h => by
    simp only [List.mem_cons, not_or] at h
    unfold back
    rw [back_out h.2, List.getElem?_set_ne fun e => h.1 e.symm]
theorem back_in : ∀ {l : List Nat} {o r : Env} {j : Nat} {x : Sl}, j ∈ l → (back o r l)[j]? = some x → x = o.getD j .no
  | [], o, r, j, x, h, e => by simp at h
  | i :: l, o, r, j, x, h, e => by
    unfold back at e
    by_cases hj : j ∈ l
    · exact back_in hj e
    · rw [back_out hj] at e
      have : j = i := by simpa [hj] using h
      subst this
      rcases set_get e with ⟨_, e⟩ | ⟨n, _⟩
      · exact e
      · exact (n rfl).elim
theorem own_hide {l : List Nat} {a : Addr} (h : Own (hide r l) σ a) : Own r σ a := by
  obtain ⟨i, d, h1, h2⟩ := h
  rcases hide_get h1 with ⟨_, e⟩ | ⟨_, e⟩
  · cases e
  · exact ⟨i, d, e, h2⟩
theorem Wd.hide (w : Wd K F H r σ) (l : List Nat) : Wd K F H (hide r l) σ := by
  refine ⟨w.le, by rw [hide_len]; exact w.len, fun i x h => ?_, fun i j d d' a h1 h2 h3 h4 => ?_⟩
  · rcases hide_get h with ⟨_, rfl⟩ | ⟨_, e⟩
    · trivial
    · exact w.sl i x e
  · rcases hide_get h1 with ⟨_, e⟩ | ⟨_, e1⟩
    · cases e
    rcases hide_get h2 with ⟨_, e⟩ | ⟨_, e2⟩
    · cases e
    exact w.inj i j d d' a e1 e2 h3 h4
/-- slots of which nothing is known may hold anything -/
theorem Wd.agree (w : Wd K F H r σ) (hl : σ1.length = σ.length) (h : ∀ (j : Nat) (x : Sl), r[j]? = some x → x ≠ .no → σ1[j]? = σ[j]?) : Wd K F H r σ1 := by
  refine ⟨w.le, w.len.trans hl.symm, fun i x e => ?_, fun i j d d' a h1 h2 h3 h4 => ?_⟩
  · have q := w.sl i x e
    cases x with
    | no => trivial
    | fr d => obtain ⟨v, e1, z⟩ := q; exact ⟨v, by rw [h i _ e nofun]; exact e1, z⟩
    | ow d => obtain ⟨v, e1, z⟩ := q; exact ⟨v, by rw [h i _ e nofun]; exact e1, z⟩
    | lk k => exact q.elim
    | ln k => exact q.elim
    | ex C => obtain ⟨v, e1, z⟩ := q; exact ⟨v, by rw [h i _ e nofun]; exact e1, z⟩
    | rz C => exact q.elim
  · rw [h i _ h1 nofun] at h3
    rw [h j _ h2 nofun] at h4
    exact w.inj i j d d' a h1 h2 h3 h4
theorem own_agree (h : ∀ (j : Nat) (x : Sl), r[j]? = some x → x ≠ .no → σ1[j]? = σ[j]?) {a : Addr} (o : Own r σ1 a) : Own r σ a := by
  obtain ⟨i, d, h1, h2⟩ := o
  exact ⟨i, d, h1, by rw [← h i _ h1 nofun]; exact h2⟩
theorem hide_wipe {own : List Nat} (j : Nat) (x : Sl) (h : (hide r own)[j]? = some x) (n : x ≠ .no) : (wipe σ own)[j]? = σ[j]? := by
  rcases hide_get h with ⟨_, e⟩ | ⟨hj, _⟩
  · exact (n e).elim
  · exact wipe_out hj
/-- behind a loop: the hidden slots as they were -/
theorem Wd.back {o r5 : Env} {σ' : SG} {hs : List Nat} {P : Addr → Prop} (w1 : Wd K F1 H1 o σ) (w2 : Wd K F2 H2 r5 σ') (f : Fr (Own (Bx.hide o hs) σ) F1 H1 F2 H2) (hO : ∀ j ∈ hs, ∃ d, o[j]? = some (Sl.ow d))
    (sub : ∀ a, Own r5 σ' a → P a) (hP : ∀ a, P a → Own (Bx.hide o hs) σ a ∨ H1 a = none) (ag : ∀ j ∈ hs, σ'[j]? = σ[j]?) : Wd K F2 H2 (Bx.back o r5 hs) σ' ∧ ∀ a, Own (Bx.back o r5 hs) σ' a → Own r5 σ' a ∨ (Own o σ a ∧ ¬ P a) := by
  have get : ∀ {j : Nat} {x : Sl}, (Bx.back o r5 hs)[j]? = some x → (j ∈ hs ∧ o[j]? = some x) ∨ (j ∉ hs ∧ r5[j]? = some x) := fun {j x} h => by
    by_cases hj : j ∈ hs
    · left
      obtain ⟨d, hd⟩ := hO j hj
      have := back_in hj h
      subst this
      exact ⟨hj, by rw [List.getD_eq_getElem?_getD, hd]; rfl⟩
    · exact .inr ⟨hj, by rw [← back_out hj]; exact h⟩
  have nh : ∀ {j : Nat} {d : PyData} {a : Addr}, j ∈ hs → o[j]? = some (Sl.ow d) → σ[j]? = some (some (V.ref a)) → ¬ Own (Bx.hide o hs) σ a := fun {j d a} hj h1 h2 k => by
    obtain ⟨i, d', g1, g2⟩ := k
    rcases hide_get g1 with ⟨_, e⟩ | ⟨ni, e⟩
    · cases e
    · have := w1.inj j i d d' a h1 e h2 g2
      exact ni (this ▸ hj)
  have np : ∀ {j : Nat} {d : PyData} {a : Addr}, j ∈ hs → o[j]? = some (Sl.ow d) → σ[j]? = some (some (V.ref a)) → ¬ P a := fun {j d a} hj h1 h2 k => by
    rcases hP a k with k | k
    · exact nh hj h1 h2 k
    · obtain ⟨_, u, hu⟩ := w1.own ⟨j, d, h1, h2⟩
      rw [hu] at k; cases k
  refine ⟨⟨w2.le, by rw [back_len]; exact w2.len, fun i x h => ?_, fun i j d d' a h1 h2 h3 h4 => ?_⟩, fun a ⟨i, d, h1, h2⟩ => ?_⟩
  · rcases get h with ⟨hi, e⟩ | ⟨_, e⟩
    · have q := w1.sl i x e
      cases x with
      | no => trivial
      | fr d => obtain ⟨v, e1, z⟩ := q; exact ⟨v, by rw [ag i hi]; exact e1, Rp.mono f.ff _ _ z⟩
      | ow d => obtain ⟨a, e1, z⟩ := q; exact ⟨a, by rw [ag i hi]; exact e1, z.go f (nh hi e e1)⟩
      | lk k => exact q.elim
      | ln k => exact q.elim
      | ex C => obtain ⟨v, e1, z⟩ := q; exact ⟨v, by rw [ag i hi]; exact e1, f.ff _ _ z⟩
      | rz C => exact q.elim
    · exact w2.sl i x e
  · have mix : ∀ {i j : Nat} {d d' : PyData}, i ∈ hs → o[i]? = some (Sl.ow d) → σ'[i]? = some (some (V.ref a)) → r5[j]? = some (Sl.ow d') → σ'[j]? = some (some (V.ref a)) → False := fun {i j d d'} hi e1 e2 e3 e4 => by
      rw [ag i hi] at e2
      exact np hi e1 e2 (sub a ⟨j, d', e3, e4⟩)
    rcases get h1 with ⟨hi, e⟩ | ⟨_, e⟩
    · rcases get h2 with ⟨hj, e'⟩ | ⟨_, e'⟩
      · rw [ag i hi] at h3
        rw [ag j hj] at h4
        exact w1.inj i j d d' a e e' h3 h4
      · exact (mix hi e h3 e' h4).elim
    · rcases get h2 with ⟨hj, e'⟩ | ⟨_, e'⟩
      · exact (mix hj e' h4 e h3).elim
      · exact w2.inj i j d d' a e e' h3 h4
  · rcases get h1 with ⟨hi, e⟩ | ⟨_, e⟩
    · rw [ag i hi] at h2
      exact .inr ⟨⟨i, d, e, h2⟩, np hi e h2⟩
    · exact .inl ⟨i, d, e, h2⟩

/-! ### targets -/
/-- what a store tells: slots beside it stay, nothing is owned that was not -/
def tG (K : PySem.W.Frag) (t : Tg) : TG := fun v σ H Q => ∃ F d r r', Wd K F H r σ ∧ Rp K F d v ∧ asgT t d r = some r' ∧
  ∀ σ', Wd K F H r' σ' → (∀ j, j ∉ t.st → σ'[j]? = σ[j]?) → (∀ a, Own r' σ' a → Own r σ a) → Q σ' H
def tGs (K : PySem.W.Frag) (t : Tg) : TGs := fun vs σ H Q => ∃ F ds r r', Wd K F H r σ ∧ RpA K F ds vs ∧ asgT t (.tuple ds) r = some r' ∧
  ∀ σ', Wd K F H r' σ' → (∀ j, j ∉ t.st → σ'[j]? = σ[j]?) → (∀ a, Own r' σ' a → Own r σ a) → Q σ' H
theorem set_st {i : Nat} {v : Option V} (w : Wd K F H r σ) {j : Nat} (h : i ≠ j) : (σ.set i v)[j]? = σ[j]? := List.getElem?_set_ne h
/-- a slot stored to, frozen -/
theorem Wd.put (w : Wd K F H r σ) {i : Nat} {d : PyData} {v : V} (hi : i < r.length) (q : Rp K F d v) : Wd K F H (r.set i (.fr d)) (σ.set i (some v)) := by
  have hi' : i < σ.length := by rw [← w.len]; exact hi
  have w1 : Wd K F H (r.set i .no) (σ.set i (some v)) := (w.setS (i := i) (x := .no) trivial fun _ => nofun).agree (List.length_set ..) fun j x h n => by
    rcases set_get h with ⟨_, e⟩ | ⟨ne, _⟩
    · exact (n e).elim
    · exact List.getElem?_set_ne ne
  have := w1.setS (i := i) (x := .fr d) ⟨v, List.getElem?_set_self hi', q⟩ fun _ => nofun
  rwa [List.set_set] at this
theorem own_put {i : Nat} {x : Sl} {v : Option V} (no : ∀ d, x ≠ .ow d) {a : Addr} (h : Own (r.set i x) (σ.set i v) a) : Own r σ a := by
  obtain ⟨j, d, h1, h2⟩ := h
  rcases set_get h1 with ⟨rfl, e⟩ | ⟨ne, h1⟩
  · exact (no d e.symm).elim
  · rw [List.getElem?_set_ne ne] at h2
    exact ⟨j, d, h1, h2⟩
theorem core_nm {i : Nat} {v : V} {Q : SG → Hp → Prop} (h : tG K (.nm i) v σ H Q) : gName i v σ H Q := by
  obtain ⟨F, d, r, r', wd, hd, he, q⟩ := h
  simp only [asgT] at he
  split at he
  · rename_i hi
    cases he
    exact q _ (wd.put hi hd) (fun j hj => List.getElem?_set_ne (by simpa [Tg.st, eq_comm] using hj)) fun a k => own_put (x := .fr d) (fun _ => nofun) k
  · cases he
theorem core_tupn {vs : List V} {Q : SG → Hp → Prop} (h : tGs K .tupn vs σ H Q) : gNil vs σ H Q := by
  obtain ⟨F, ds, r, r', wd, hd, he, q⟩ := h
  cases ds with
  | nil =>
    cases he
    unfold RpA at hd
    exact ⟨hd, q σ wd (fun _ _ => rfl) fun _ k => k⟩
  | cons d ds => cases he
theorem core_gs {a b : Tg} {vs : List V} {Q : SG → Hp → Prop} (h : tGs K (.tup a b) vs σ H Q) : gCons (tG K a) (tGs K b) vs σ H Q := by
  obtain ⟨F, ds, r, r', wd, hd, he, q⟩ := h
  cases ds with
  | nil => cases he
  | cons d ds =>
    unfold RpA at hd
    obtain ⟨v, t, rfl, hd, hds⟩ := hd
    simp only [asgT] at he
    split at he
    · rename_i r1 h1
      refine ⟨v, t, rfl, F, d, r, r1, wd, hd, h1, fun σ1 w1 ag1 s1 => ⟨F, ds, r1, r', w1, hds, he, fun σ2 w2 ag2 s2 => ?_⟩⟩
      refine q σ2 w2 (fun j hj => ?_) fun c k => s1 c (s2 c k)
      simp only [Tg.st, List.mem_append, not_or] at hj
      rw [ag2 j hj.2, ag1 j hj.1]
    · cases he
theorem core_tupG {a b : Tg} {n : Nat} {v : V} {Q : SG → Hp → Prop} (hn : ∀ ds r r', asgT (.tup a b) (.tuple ds) r = some r' → ds.length = n) (h : tG K (.tup a b) v σ H Q) : gTup K n (tGs K (.tup a b)) v σ H Q ∨ gLst K n (tGs K (.tup a b)) v σ H Q := by
  obtain ⟨F, d, r, r', wd, hd, he, q⟩ := h
  cases d with
  | tuple ds =>
    unfold Rp at hd
    obtain ⟨p, vs, rfl, sq, ra⟩ := hd
    exact .inl ⟨p, vs, rfl, SqT.mono wd.le sq, by rw [← ra.len]; exact hn ds r r' he, F, ds, r, r', wd, ra, he, q⟩
  | list ds =>
    unfold Rp at hd
    obtain ⟨p, vs, rfl, sq, ra⟩ := hd
    cases ds with
    | nil => simp [asgT] at he
    | cons x xs =>
      have he' : asgT (.tup a b) (.tuple (x :: xs)) r = some r' := by simpa only [asgT] using he
      exact .inr ⟨p, vs, rfl, SqL.mono wd.le sq, by rw [← ra.len]; exact hn _ r r' he', F, x :: xs, r, r', wd, ra, he', q⟩
  | _ => simp [asgT] at he

/-! ### what is walked -/
/-- the items, as long as what is out of reach stays -/
def Wk (K : PySem.W.Frag) (O : Addr → Prop) (F H : Hp) (xs : List PyData) (J : It) : Prop := ∀ F2 H2, Fr O F H F2 H2 → Same F2 H2 →
  J.stop xs.length H2 ∧ ∀ (i : Nat) (d : PyData), xs[i]? = some d → J.go i H2 ∧ ∀ v H3, J.yld i H2 v H3 → ∃ F3, Fr noO F2 H2 F3 H3 ∧ Same F3 H3 ∧ Rp K F3 d v
def tI (C : Call) (K : PySem.W.Frag) (it : Itr) : TI := fun σ H R => ∃ F r xs hs r', Wd K F H r σ ∧ evI C it r = some (xs, hs, r') ∧
  ∀ J F' H', Fr (Own r σ) F H F' H' → Wd K F' H' r' σ → (∀ a, Own r' σ a → Own r σ a) → (∀ j ∈ hs, ∃ d, r'[j]? = some (Sl.ow d)) → Wk K (Own (hide r' hs) σ) F' H' xs J → R J H'
theorem seqL_keep {w : Sl} {v : V} {xs : List PyData} {hs : List Nat} (wd : Wd K F H r σ) (q : RpV K F H r σ w v) (e : see r w = some (.list xs)) (hh : ∀ i ∈ ownLk r [w], i ∈ hs) :
    ∃ a vs, v = .ref a ∧ SqL K H a vs ∧ RpA K F xs vs ∧ ∀ F2 H2, Fr (Own (hide r hs) σ) F H F2 H2 → Same F2 H2 → SqL K H2 a vs := by
  have frz : Rp K F (.list xs) v → ∃ a vs, v = .ref a ∧ SqL K H a vs ∧ RpA K F xs vs ∧ ∀ F2 H2, Fr (Own (hide r hs) σ) F H F2 H2 → Same F2 H2 → SqL K H2 a vs := fun q => by
    unfold Rp at q
    obtain ⟨a, vs, rfl, s, z⟩ := q
    exact ⟨a, vs, rfl, SqL.mono wd.le s, z, fun F2 H2 f le => SqL.mono le (SqL.mono f.ff s)⟩
  have own : ∀ {a : Addr}, OwnAt K F H (.list xs) a → ¬ Own (hide r hs) σ a → ∃ b vs, V.ref a = .ref b ∧ SqL K H b vs ∧ RpA K F xs vs ∧ ∀ F2 H2, Fr (Own (hide r hs) σ) F H F2 H2 → Same F2 H2 → SqL K H2 b vs := fun {a} o n => by
    obtain ⟨_, vs, z1, z2⟩ := o
    exact ⟨a, vs, rfl, .inl (.inl z1), z2, fun F2 H2 f le => .inl (.inl (f.hh a _ z1 n))⟩
  cases w with
  | no => exact q.elim
  | fr x => cases e; exact frz q
  | ow x =>
    cases e
    obtain ⟨a, rfl, o, n⟩ := q
    exact own o fun k => n (own_hide k)
  | ex c => cases e
  | rz c => cases e
  | ln i => cases e
  | lk i =>
    simp only [see] at e
    cases h : r[i]? with
    | none => rw [h] at e; cases e
    | some x =>
      rw [h] at e
      have z := wd.sl i x h
      cases x with
      | fr y =>
        cases e
        obtain ⟨u, e1, z⟩ := z
        rw [show σ[i]? = some (some v) from q] at e1
        cases e1
        exact frz z
      | ow y =>
        cases e
        obtain ⟨u, e1, z⟩ := z
        rw [show σ[i]? = some (some v) from q] at e1
        cases e1
        refine own z fun k => ?_
        obtain ⟨j, d, g1, g2⟩ := k
        rcases hide_get g1 with ⟨_, e⟩ | ⟨nj, e⟩
        · cases e
        · have := wd.inj i j _ d u h e q g2
          subst this
          exact nj (hh i (by simp [ownLk, h]))
      | _ => cases e
theorem seqT_keep {w : Sl} {v : V} {xs : List PyData} (wd : Wd K F H r σ) (q : RpV K F H r σ w v) (e : see r w = some (.tuple xs)) :
    ∃ a vs, v = .ref a ∧ RpA K F xs vs ∧ ∀ F2 H2, Same F F2 → Same F2 H2 → SqT K H2 a vs := by
  obtain ⟨a, vs, rfl, s, z⟩ := (see_ok wd q e).tup
  exact ⟨a, vs, rfl, z, fun F2 H2 f le => SqT.mono le (SqT.mono f s)⟩
theorem ownLk_cons {w : Sl} {ws : List Sl} {i : Nat} (h : i ∈ ownLk r [w]) : i ∈ ownLk r (w :: ws) := by
  cases w with
  | lk k =>
    simp only [ownLk] at h ⊢
    split at h
    · have : i = k := by simpa using h
      subst this
      exact List.mem_cons_self
    · simp at h
  | _ => simp [ownLk] at h
theorem ownLk_tail {w : Sl} {ws : List Sl} {i : Nat} (h : i ∈ ownLk r ws) : i ∈ ownLk r (w :: ws) := by
  cases w with
  | lk k =>
    simp only [ownLk]
    split
    · exact List.mem_cons_of_mem _ h
    · exact h
  | _ => simpa [ownLk] using h
/-- all yields are the heap's own values -/
theorem wk_list {O : Addr → Prop} {a : Addr} {xs : List PyData} {vs : List V} (ra : RpA K F xs vs) (h : ∀ F2 H2, Fr O F H F2 H2 → Same F2 H2 → SqL K H2 a vs) : Wk K O F H xs (Itl K a) := by
  intro F2 H2 f le
  have s := h F2 H2 f le
  refine ⟨⟨vs, s, by rw [← ra.len]; exact Nat.le_refl _⟩, fun i d hd => ?_⟩
  obtain ⟨v, hv, rv⟩ := ra.at hd
  refine ⟨⟨vs, v, s, hv⟩, fun x H3 ⟨e, y⟩ => ?_⟩
  subst e
  have := y vs s
  rw [hv] at this
  cases this
  exact ⟨F2, Fr.refl, le, Rp.mono f.ff _ _ rv⟩
theorem wk_tup {O : Addr → Prop} {a : Addr} {xs : List PyData} {vs : List V} (ra : RpA K F xs vs) (h : ∀ F2 H2, Same F F2 → Same F2 H2 → SqT K H2 a vs) : Wk K O F H xs (Itt K a) := by
  intro F2 H2 f le
  have s := h F2 H2 f.ff le
  refine ⟨⟨vs, s, by rw [← ra.len]; exact Nat.le_refl _⟩, fun i d hd => ?_⟩
  obtain ⟨v, hv, rv⟩ := ra.at hd
  refine ⟨⟨vs, v, s, hv⟩, fun x H3 ⟨e, y⟩ => ?_⟩
  subst e
  have := y vs s
  rw [hv] at this
  cases this
  exact ⟨F2, Fr.refl, le, Rp.mono f.ff _ _ rv⟩
theorem core_ov {e : Ex} {R : It → Hp → Prop} (h : tI C K (.ov e) σ H R) : iList K (tE C K e) σ H R ∨ iTup K (tE C K e) σ H R := by
  obtain ⟨F, r, xs, hs, r', wd, he, q⟩ := h
  simp only [evI] at he
  split at he
  · rename_i w r1 h1
    split at he
    · rename_i d h2
      split at he
      · rename_i ys h3
        simp only [Option.some.injEq, Prod.mk.injEq] at he
        obtain ⟨rfl, rfl, rfl⟩ := he
        have hO : ∀ j ∈ ownLk r1 [w], ∃ d, r1[j]? = some (Sl.ow d) := fun j hj => of_ownLk hj
        unfold itemsOf at h3
        split at h3
        · cases h3
          left
          refine ⟨F, r, w, r1, wd, h1, fun v F1 H1 p => ?_⟩
          obtain ⟨a, vs, rfl, s, ra, kp⟩ := seqL_keep (hs := ownLk r1 [w]) p.wd p.rp h2 fun _ h => h
          exact ⟨a, rfl, ⟨vs, s⟩, q _ F1 H1 p.fr p.wd p.sub hO (wk_list ra kp)⟩
        · cases h3
          right
          refine ⟨F, r, w, r1, wd, h1, fun v F1 H1 p => ?_⟩
          obtain ⟨a, vs, rfl, ra, kp⟩ := seqT_keep p.wd p.rp h2
          exact ⟨a, rfl, ⟨vs, kp F1 H1 (Same.refl _) p.wd.le⟩, q _ F1 H1 p.fr p.wd p.sub hO (wk_tup ra kp)⟩
        · cases h3
      · cases he
    · cases he
  · cases he
theorem wk_range {O : Addr → Prop} {lo : Int} {n : Nat} {xs : List PyData} (e : xs = (List.range n).map fun (i : Nat) => PyData.int (lo + (i : Int))) : Wk K O F H xs (L2.Itr lo n) := by
  subst e
  intro F2 H2 f le
  refine ⟨(show n ≤ _ by simp), fun i d hd => ?_⟩
  rw [List.getElem?_map] at hd
  cases hr : (List.range n)[i]? with
  | none => rw [hr] at hd; cases hd
  | some k =>
    rw [hr] at hd
    cases hd
    obtain ⟨h1, h2⟩ := List.getElem?_eq_some_iff.mp hr
    simp at h1 h2
    subst h2
    refine ⟨h1, fun v H3 ⟨e1, e2⟩ => ?_⟩
    subst e1 e2
    exact ⟨F2, Fr.refl, le, rfl⟩
theorem new_tup {xs : List PyData} {vs : List V} {p : Addr} (le : Same F H) (q : RpA K F xs vs) (hp : H p = none) : ∃ F3, Fr noO F H F3 (upd H p (.tup vs)) ∧ Same F3 (upd H p (.tup vs)) ∧ Rp K F3 (.tuple xs) (.ref p) :=
  ⟨upd F p (.tup vs), Fr.refl.upF le hp, same_up2 le hp, p, vs, rfl, .inl (.inl upd_same), RpA.mono (same_up (le.free hp)) _ _ q⟩
theorem zip_at {xs ys : List PyData} {i : Nat} {d : PyData} (h : ((xs.zip ys).map fun p => PyData.tuple [p.1, p.2])[i]? = some d) : ∃ x y, xs[i]? = some x ∧ ys[i]? = some y ∧ d = .tuple [x, y] := by
  rw [List.getElem?_map] at h
  cases e : (xs.zip ys)[i]? with
  | none => rw [e] at h; cases h
  | some p =>
    rw [e] at h
    cases h
    obtain ⟨h1, h2⟩ := List.getElem?_zip_eq_some.mp e
    exact ⟨p.1, p.2, h1, h2, rfl⟩
theorem RpA.two {x y : PyData} {v w : V} (h1 : Rp K F x v) (h2 : Rp K F y w) : RpA K F [x, y] [v, w] := RpA.cons h1 (RpA.cons h2 RpA.nil)
theorem RpVL.two {x y : Sl} {vs : List V} (h : RpVL K F H r σ [x, y] vs) : ∃ v w, vs = [v, w] ∧ RpV K F H r σ x v ∧ RpV K F H r σ y w := by
  obtain ⟨v, t, rfl, h1, w, t2, e, h2, h3⟩ := h
  cases h3
  subst e
  exact ⟨v, w, rfl, h1, h2⟩
/-- a list or a tuple, kept -/
theorem seq_keep {w : Sl} {v : V} {d : PyData} {xs : List PyData} {hs : List Nat} (wd : Wd K F H r σ) (q : RpV K F H r σ w v) (e : see r w = some d) (hi : itemsOf d = some xs) (hh : ∀ i ∈ ownLk r [w], i ∈ hs) :
    ∃ k a vs, v = .ref a ∧ RpA K F xs vs ∧ ∀ F2 H2, Fr (Own (hide r hs) σ) F H F2 H2 → Same F2 H2 → Kd.sq k K H2 a vs := by
  unfold itemsOf at hi
  split at hi
  · cases hi
    obtain ⟨a, vs, rfl, _, z, k⟩ := seqL_keep wd q e hh
    exact ⟨.l, a, vs, rfl, z, k⟩
  · cases hi
    obtain ⟨a, vs, rfl, z, k⟩ := seqT_keep wd q e
    exact ⟨.t, a, vs, rfl, z, fun F2 H2 f le => k F2 H2 f.ff le⟩
  · cases hi
theorem wk_zip {O : Addr → Prop} {k1 k2 : Kd} {a b : Addr} {xs ys : List PyData} {vs ws : List V} (ra : RpA K F xs vs) (rb : RpA K F ys ws) (ha : ∀ F2 H2, Fr O F H F2 H2 → Same F2 H2 → k1.sq K H2 a vs) (hb : ∀ F2 H2, Fr O F H F2 H2 → Same F2 H2 → k2.sq K H2 b ws) :
    Wk K O F H ((xs.zip ys).map fun p => .tuple [p.1, p.2]) (Iz2 K k1 k2 a b) := by
  intro F2 H2 f le
  have sa := ha F2 H2 f le
  have sb := hb F2 H2 f le
  have la := ra.len
  have lb := rb.len
  refine ⟨⟨vs, ws, sa, sb, by rw [List.length_map, List.length_zip, la, lb]⟩, fun i d hd => ?_⟩
  obtain ⟨x, y, hx, hy, rfl⟩ := zip_at hd
  obtain ⟨v, hv, rv⟩ := ra.at hx
  obtain ⟨w, hw, rw'⟩ := rb.at hy
  refine ⟨⟨vs, ws, v, w, sa, sb, hv, hw⟩, fun u H3 ⟨T, v', w', e, hT, e3, y1, y2⟩ => ?_⟩
  subst e e3
  have z1 := y1 vs sa
  have z2 := y2 ws sb
  rw [hv] at z1
  rw [hw] at z2
  cases z1
  cases z2
  exact new_tup le (RpA.two (Rp.mono f.ff _ _ rv) (Rp.mono f.ff _ _ rw')) hT
theorem zip_at3 {xs ys zs : List PyData} {i : Nat} {d : PyData} (h : ((xs.zip (ys.zip zs)).map fun p => PyData.tuple [p.1, p.2.1, p.2.2])[i]? = some d) : ∃ x y z, xs[i]? = some x ∧ ys[i]? = some y ∧ zs[i]? = some z ∧ d = .tuple [x, y, z] := by
  rw [List.getElem?_map] at h
  cases e : (xs.zip (ys.zip zs))[i]? with
  | none => rw [e] at h; cases h
  | some p =>
    rw [e] at h
    cases h
    obtain ⟨h1, h2⟩ := List.getElem?_zip_eq_some.mp e
    obtain ⟨h3, h4⟩ := List.getElem?_zip_eq_some.mp h2
    exact ⟨p.1, p.2.1, p.2.2, h1, h3, h4, rfl⟩
theorem wk_zip3 {O : Addr → Prop} {k1 k2 k3 : Kd} {a b c : Addr} {xs ys zs : List PyData} {vs ws us : List V} (ra : RpA K F xs vs) (rb : RpA K F ys ws) (rc : RpA K F zs us) (ha : ∀ F2 H2, Fr O F H F2 H2 → Same F2 H2 → k1.sq K H2 a vs) (hb : ∀ F2 H2, Fr O F H F2 H2 → Same F2 H2 → k2.sq K H2 b ws)
    (hc : ∀ F2 H2, Fr O F H F2 H2 → Same F2 H2 → k3.sq K H2 c us) : Wk K O F H ((xs.zip (ys.zip zs)).map fun p => .tuple [p.1, p.2.1, p.2.2]) (Iz3 K k1 k2 k3 a b c) := by
  intro F2 H2 f le
  have sa := ha F2 H2 f le
  have sb := hb F2 H2 f le
  have sc := hc F2 H2 f le
  have la := ra.len
  have lb := rb.len
  have lc := rc.len
  refine ⟨⟨vs, ws, us, sa, sb, sc, by rw [List.length_map, List.length_zip, List.length_zip, la, lb, lc]; omega⟩, fun i d hd => ?_⟩
  obtain ⟨x, y, z, hx, hy, hz, rfl⟩ := zip_at3 hd
  obtain ⟨v, hv, rv⟩ := ra.at hx
  obtain ⟨w, hw, rw'⟩ := rb.at hy
  obtain ⟨t, ht, rt⟩ := rc.at hz
  refine ⟨⟨vs, ws, us, v, w, t, sa, sb, sc, hv, hw, ht⟩, fun u H3 ⟨T, v', w', t', e, hT, e3, y1, y2, y3⟩ => ?_⟩
  subst e e3
  have z1 := y1 vs sa
  have z2 := y2 ws sb
  have z3 := y3 us sc
  rw [hv] at z1
  rw [hw] at z2
  rw [ht] at z3
  cases z1
  cases z2
  cases z3
  exact new_tup le (RpA.cons (Rp.mono f.ff _ _ rv) (RpA.two (Rp.mono f.ff _ _ rw') (Rp.mono f.ff _ _ rt))) hT
theorem seeL_cons' {ws : List Sl} {d : PyData} {ds : List PyData} (h : seeL r ws = some (d :: ds)) : ∃ x xs, ws = x :: xs ∧ see r x = some d ∧ seeL r xs = some ds := by
  cases ws with
  | nil => cases h
  | cons x ws =>
    unfold seeL at h
    split at h
    · rename_i d' l h1 h2
      cases h
      exact ⟨x, ws, rfl, h1, h2⟩
    · cases h
theorem seeL_nil' {ws : List Sl} (h : seeL r ws = some []) : ws = [] := by
  cases ws with
  | nil => rfl
  | cons x ws =>
    unfold seeL at h
    split at h <;> cases h
theorem evEs_len {C : Call} : ∀ {es : Exs} {r r' : Env} {ws : List Sl}, evEs C es r = some (ws, r') → ws.length = es.len
  | .nil, r, r', ws, h => by
    simp only [evEs, Option.some.injEq, Prod.mk.injEq] at h
    rw [← h.1]
    rfl
  | .cons e es, r, r', ws, h => by
    simp only [evEs] at h
    split at h
    · split at h
      · rename_i h2
        simp only [Option.some.injEq, Prod.mk.injEq] at h
        rw [← h.1]
        show _ + 1 = es.len + 1
        rw [evEs_len h2]
      · cases h
    · cases h
theorem seeL_len : ∀ {ws : List Sl} {ds : List PyData}, seeL r ws = some ds → ds.length = ws.length
  | [], ds, h => by cases h; rfl
  | w :: ws, ds, h => by
    unfold seeL at h
    split at h
    · rename_i h1 h2
      cases h
      rw [List.length_cons, List.length_cons, seeL_len h2]
    · cases h
theorem core_zp2 {es : Exs} {R : It → Hp → Prop} (hl : es.len = 2) (h : tI C K (.zp es) σ H R) : iZ2 K (tEs C K es) σ H R := by
  obtain ⟨F, r, xs, hs, r', wd, he, q⟩ := h
  simp only [evI] at he
  split at he
  · rename_i ws r1 h1
    split at he
    · rename_i ds h2
      split at he
      · rename_i ys h3
        simp only [Option.some.injEq, Prod.mk.injEq] at he
        obtain ⟨rfl, rfl, rfl⟩ := he
        have hO : ∀ j ∈ ownLk r1 ws, ∃ d, r1[j]? = some (Sl.ow d) := fun j hj => of_ownLk hj
        have l1 := evEs_len h1
        have l2 := seeL_len h2
        refine ⟨F, r, ws, r1, wd, h1, fun vs F1 H1 p => ?_⟩
        unfold zipD at h3
        split at h3
        · rename_i d1 d2
          split at h3
          · rename_i as bs i1 i2
            cases h3
            obtain ⟨x, t, rfl, e1, h2⟩ := seeL_cons' h2
            obtain ⟨y, t, rfl, e2, h2⟩ := seeL_cons' h2
            obtain rfl := seeL_nil' h2
            obtain ⟨v, w, rfl, p1, p2⟩ := p.rp.two
            obtain ⟨k1, a, avs, rfl, ra, q1⟩ := seq_keep (hs := ownLk r1 [x, y]) p.wd p1 e1 i1 fun _ h => ownLk_cons h
            obtain ⟨k2, b, bvs, rfl, rb, q2⟩ := seq_keep (hs := ownLk r1 [x, y]) p.wd p2 e2 i2 fun _ h => ownLk_tail h
            exact ⟨a, b, avs, bvs, k1, k2, rfl, q1 F1 H1 Fr.refl p.wd.le, q2 F1 H1 Fr.refl p.wd.le, q _ F1 H1 p.fr p.wd p.sub hO (wk_zip ra rb q1 q2)⟩
          · cases h3
        · simp at l2
          omega
        · cases h3
      · cases he
    · cases he
  · cases he
theorem core_zp3 {es : Exs} {R : It → Hp → Prop} (hl : es.len = 3) (h : tI C K (.zp es) σ H R) : iZ3 K (tEs C K es) σ H R := by
  obtain ⟨F, r, xs, hs, r', wd, he, q⟩ := h
  simp only [evI] at he
  split at he
  · rename_i ws r1 h1
    split at he
    · rename_i ds h2
      split at he
      · rename_i ys h3
        simp only [Option.some.injEq, Prod.mk.injEq] at he
        obtain ⟨rfl, rfl, rfl⟩ := he
        have hO : ∀ j ∈ ownLk r1 ws, ∃ d, r1[j]? = some (Sl.ow d) := fun j hj => of_ownLk hj
        have l1 := evEs_len h1
        have l2 := seeL_len h2
        refine ⟨F, r, ws, r1, wd, h1, fun vs F1 H1 p => ?_⟩
        unfold zipD at h3
        split at h3
        · simp at l2
          omega
        · rename_i d1 d2 d3
          split at h3
          · rename_i as bs cs i1 i2 i3
            cases h3
            obtain ⟨x, t, rfl, e1, h2⟩ := seeL_cons' h2
            obtain ⟨y, t, rfl, e2, h2⟩ := seeL_cons' h2
            obtain ⟨z, t, rfl, e3, h2⟩ := seeL_cons' h2
            obtain rfl := seeL_nil' h2
            obtain ⟨v, t, rfl, p1, prest⟩ := p.rp
            obtain ⟨w, u, rfl, p2, p3⟩ := prest.two
            obtain ⟨k1, a, avs, rfl, ra, q1⟩ := seq_keep (hs := ownLk r1 [x, y, z]) p.wd p1 e1 i1 fun _ h => ownLk_cons h
            obtain ⟨k2, b, bvs, rfl, rb, q2⟩ := seq_keep (hs := ownLk r1 [x, y, z]) p.wd p2 e2 i2 fun _ h => ownLk_tail (ownLk_cons h)
            obtain ⟨k3, c, cvs, rfl, rc, q3⟩ := seq_keep (hs := ownLk r1 [x, y, z]) p.wd p3 e3 i3 fun _ h => ownLk_tail (ownLk_tail h)
            exact ⟨a, b, c, avs, bvs, cvs, k1, k2, k3, rfl, q1 F1 H1 Fr.refl p.wd.le, q2 F1 H1 Fr.refl p.wd.le, q3 F1 H1 Fr.refl p.wd.le, q _ F1 H1 p.fr p.wd p.sub hO (wk_zip3 ra rb rc q1 q2 q3)⟩
          · cases h3
        · cases h3
      · cases he
    · cases he
  · cases he
theorem enum_at : ∀ {xs : List PyData} {k : Int} {i : Nat} {d : PyData}, (enumFrom k xs)[i]? = some d → ∃ x, xs[i]? = some x ∧ d = .tuple [.int (k + i), x]
  | [], k, i, d, h => by simp [enumFrom] at h
  | x :: xs, k, 0, d, h => by
    simp [enumFrom] at h
    exact ⟨x, rfl, by simp [h.symm]⟩
  | x :: xs, k, i + 1, d, h => by
    obtain ⟨y, h1, h2⟩ := enum_at (xs := xs) (k := k + 1) (i := i) (by simpa [enumFrom] using h)
    refine ⟨y, by simpa using h1, ?_⟩
    rw [h2]
    congr 3
    omega
theorem enum_len : ∀ {xs : List PyData} {k : Int}, (enumFrom k xs).length = xs.length
  | [], k => rfl
  | x :: xs, k => by
    unfold enumFrom
    rw [List.length_cons, List.length_cons, enum_len]
theorem enum_items {d : PyData} {ys : List PyData} (h : enumD d = some ys) : ∃ xs, itemsOf d = some xs ∧ ys = enumFrom 0 xs := by
  unfold enumD at h
  split at h
  · cases h; exact ⟨_, rfl, rfl⟩
  · cases h; exact ⟨_, rfl, rfl⟩
  · cases h
theorem core_en {e : Ex} {R : It → Hp → Prop} (h : tI C K (.en e) σ H R) : iEn K (tCons (tE C K e) tNil) σ H R := by
  obtain ⟨F, r, xs, hs, r', wd, he, q⟩ := h
  simp only [evI] at he
  split at he
  · rename_i w r1 h1
    split at he
    · rename_i d h2
      split at he
      · rename_i ys h3
        simp only [Option.some.injEq, Prod.mk.injEq] at he
        obtain ⟨rfl, rfl, rfl⟩ := he
        have hO : ∀ j ∈ ownLk r1 [w], ∃ d, r1[j]? = some (Sl.ow d) := fun j hj => of_ownLk hj
        refine ⟨F, r, w, r1, wd, h1, fun v F1 H1 p => ?_⟩
        obtain ⟨ls, i1, rfl⟩ := enum_items h3
        obtain ⟨k, a, vs, rfl, ra, kp⟩ := seq_keep (hs := ownLk r1 [w]) p.wd p.rp h2 i1 fun _ h => h
        refine ⟨a, vs, k, rfl, kp F1 H1 Fr.refl p.wd.le, q _ F1 H1 p.fr p.wd p.sub hO ?_⟩
        intro F2 H2 f le
        have sa := kp F2 H2 f le
        refine ⟨⟨vs, sa, by rw [← ra.len, enum_len]⟩, fun i d hd => ?_⟩
        obtain ⟨x, hx, rfl⟩ := enum_at hd
        obtain ⟨v, hv, rv⟩ := ra.at hx
        refine ⟨⟨vs, v, sa, hv⟩, fun u H3 ⟨T, v', e, hT, e3, y1⟩ => ?_⟩
        subst e e3
        have z1 := y1 vs sa
        rw [hv] at z1
        cases z1
        rw [Int.zero_add]
        exact new_tup le (RpA.two rfl (Rp.mono f.ff _ _ rv)) hT
      · cases he
    · cases he
  · cases he

theorem Wd.out {D : Addr} {o : HO} (w : Wd K F H r σ) (hF : F D = none) (n : ¬ Own r σ D) : Wd K F (upd H D o) r σ := by
  refine ⟨fun b u e => by rw [upd_ne (ne_of_none e hF)]; exact w.le b u e, w.len, fun i x h => ?_, w.inj⟩
  have q := w.sl i x h
  cases x with
  | no => trivial
  | fr d => exact q
  | ow d =>
    obtain ⟨a, e1, z⟩ := q
    have na : a ≠ D := fun e => n ⟨i, d, h, e ▸ e1⟩
    exact ⟨a, e1, z.off na⟩
  | lk k => exact q.elim
  | ln k => exact q.elim
  | ex C => exact q
  | rz C => exact q.elim
theorem core_rg1 {es : Exs} {R : It → Hp → Prop} (hl : es.len = 1) (h : tI C K (.rg es) σ H R) : iRng1 (tEs C K es) σ H R := by
  obtain ⟨F, r, xs, hs, r', wd, he, q⟩ := h
  simp only [evI] at he
  split at he
  · rename_i ws r1 h1
    split at he
    · rename_i ds h2
      split at he
      · rename_i ys h3
        simp only [Option.some.injEq, Prod.mk.injEq] at he
        obtain ⟨rfl, rfl, rfl⟩ := he
        have e1 := evEs_len h1
        have e2 := seeL_len h2
        unfold rangeD at h3
        split at h3
        · rename_i j
          split at h3
          · rename_i hj
            cases h3
            refine ⟨F, r, ws, r1, wd, h1, fun vs F1 H1 p => ?_⟩
            obtain ⟨v, rfl, hx⟩ := (seeL_ok p.wd p.rp h2).one
            obtain rfl := hx.int
            exact ⟨j, rfl, hj.1, hj.2, q _ F1 H1 p.fr p.wd p.sub (fun _ h => by simp at h) (wk_range (by simp))⟩
          · cases h3
        · simp at e2
          omega
        · cases h3
      · cases he
    · cases he
  · cases he
theorem core_rg2 {es : Exs} {R : It → Hp → Prop} (hl : es.len = 2) (h : tI C K (.rg es) σ H R) : iRng2 (tEs C K es) σ H R := by
  obtain ⟨F, r, xs, hs, r', wd, he, q⟩ := h
  simp only [evI] at he
  split at he
  · rename_i ws r1 h1
    split at he
    · rename_i ds h2
      split at he
      · rename_i ys h3
        simp only [Option.some.injEq, Prod.mk.injEq] at he
        obtain ⟨rfl, rfl, rfl⟩ := he
        have e1 := evEs_len h1
        have e2 := seeL_len h2
        unfold rangeD at h3
        split at h3
        · simp at e2
          omega
        · rename_i a b
          split at h3
          · rename_i hj
            cases h3
            refine ⟨F, r, ws, r1, wd, h1, fun vs F1 H1 p => ?_⟩
            obtain ⟨v, w, rfl, hx, hy⟩ := (seeL_ok p.wd p.rp h2).two
            obtain rfl := hx.int
            obtain rfl := hy.int
            exact ⟨a, b, rfl, hj, q _ F1 H1 p.fr p.wd p.sub (fun _ h => by simp at h) (wk_range rfl)⟩
          · cases h3
        · cases h3
      · cases he
    · cases he
  · cases he
end
end Bx

set_option Elab.async false
set_option linter.all false
set_option maxRecDepth 100000
set_option autoImplicit false
set_option maxHeartbeats 4000000
/-! dict(zip(x, y)) with keys that are tuples; for k, v in d.items() of such a dict. -/
namespace Bx
open PySem PySem.Spec PyProof.Rows L2
theorem PairArg.zipK {prog : Program} {w : World} {k1 k2 : Kd} {z TI TO i1 i2 a b : Addr} (S : PySem.ZipSep2 z TI TO i1 i2 [i1, a] [i2, b]) (n1 : a ≠ i1) (n2 : b ≠ i2) (xs ys : Array Value) :
    PySem.PairArg prog w "zip" z [z, TI, TO, i1, i2, a, b] [z, TO, i1, i2] (min xs.size ys.size) (fun i k v => xs[i]? = some k ∧ ys[i]? = some v)
      (fun h => IsZip h z TI TO .none ∧ PySem.IsTupOf2 h TI (.ref i1) (.ref i2) ∧ (∃ x y, PySem.IsTupOf2 h TO x y) ∧ k1.it i1 a 0 h ∧ k2.it i2 b 0 h ∧ k1.is h a xs ∧ k2.is h b ys) where
  type := fun s ok => ⟨_, ok.1, rfl⟩
  notDict := by decide
  keep := fun h h' ok hk => by
    obtain ⟨hz, hTI, ⟨x, y, hTO⟩, h1, h2, l1, l2⟩ := ok
    refine ⟨hk _ _ hz, hk _ _ hTI, ⟨x, y, hk _ _ hTO⟩, k1.at h1 fun o e => hk _ o e, k2.at h2 fun o e => hk _ o e, ?_, ?_⟩
    · cases k1
      · exact Heap.IsList.at l1 fun o e => hk _ o e
      · exact Heap.IsTuple.at l1 fun o e => hk _ o e
    · cases k2
      · exact Heap.IsList.at l2 fun o e => hk _ o e
      · exact Heap.IsTuple.at l2 fun o e => hk _ o e
  there := fun h ok c hc => by
    obtain ⟨hz, hTI, ⟨x, y, hTO⟩, h1, h2, l1, l2⟩ := ok
    have ot : ∀ {k : Kd} {c : Addr} {vs : Array Value}, k.is h c vs → ∃ o, h.get? c = some o := fun {k c vs} q => by
      cases k
      · obtain ⟨o, e, _⟩ := q; exact ⟨o, e⟩
      · obtain ⟨o, e, _⟩ := q; exact ⟨o, e⟩
    simp only [List.mem_cons, List.not_mem_nil, or_false] at hc
    rcases hc with rfl | rfl | rfl | rfl | rfl | rfl | rfl
    · exact ⟨_, hz⟩
    · exact ⟨_, hTI⟩
    · exact ⟨_, hTO⟩
    · obtain ⟨o, e, _⟩ := k1.obj h1; exact ⟨o, e⟩
    · obtain ⟨o, e, _⟩ := k2.obj h2; exact ⟨o, e⟩
    · exact ot l1
    · exact ot l2
  sub := fun c hc => by simp at hc ⊢; rcases hc with rfl | rfl | rfl | rfl <;> simp
  noKeys := fun A s Q E hA ok h => getAttrOr_miss_zip ok.1 rfl rfl rfl zip_no_keys (by decide +kernel) hA h
  iter := fun A s d Q E hA ok hd hdf h => by
    obtain ⟨hz, hTI, ⟨x, y, hTO⟩, h1, h2, l1, l2⟩ := ok
    simp only [List.mem_cons, List.not_mem_nil, or_false, not_or] at hdf
    obtain ⟨dz, dTI, dTO, di1, di2, da, db⟩ := hdf
    have D1 := k1.draws (prog := prog) (w := w) (A := A.in1) hA i1 a n1 xs
    have D2 := k2.draws (prog := prog) (w := w) (A := A.in1) hA i2 b n2 ys
    refine wpAny_pyIter_zip hz (h z [z, TO, i1, i2] (fun i h => PySem.ZlSt h z TI TO i1 i2 d i ∧ (k1.it i1 a i h ∧ k1.is h a xs) ∧ (k2.it i2 b i h ∧ k2.is h b ys)) s.heap s.toks ?_ ⟨⟨hTI, .inl ⟨rfl, hz, x, y, hTO⟩⟩, ⟨h1, l1⟩, ⟨h2, l2⟩⟩ (fun _ _ e => e) fun b hb => .inl hb)
    exact {
      off := fun hm => by
        simp only [List.mem_cons, List.not_mem_nil, or_false] at hm
        rcases hm with e | e | e | e
        · exact dz e
        · exact dTO e
        · exact di1 e
        · exact di2 e
      frame := fun i g g' st hk => by
        obtain ⟨hz, t1, t2⟩ := st
        refine ⟨hz.keep hk (Ne.symm dz) (Ne.symm dTI) (Ne.symm dTO), D1.frame _ _ _ t1 fun c hc o e => hk c o (fun q => ?_) e, D2.frame _ _ _ t2 fun c hc o e => hk c o (fun q => ?_) e⟩
        · simp only [List.mem_cons, List.not_mem_nil, or_false] at hc
          rcases hc with rfl | rfl
          · exact di1 q.symm
          · exact da q.symm
        · simp only [List.mem_cons, List.not_mem_nil, or_false] at hc
          rcases hc with rfl | rfl
          · exact di2 q.symm
          · exact db q.symm
      item := fun i s₁ Q₁ E₁ hi st hds hQ => by
        obtain ⟨hz, t1, t2⟩ := st
        have e1 : i1 < s₁.heap.objs.size := by obtain ⟨o, e, _⟩ := k1.obj t1.1; exact Heap.lt_size e
        have e2 : i2 < s₁.heap.objs.size := by obtain ⟨o, e, _⟩ := k2.obj t2.1; exact Heap.lt_size e
        refine PySem.zl_item S D1 D2 hz t1 t2 (by omega) (by omega) e1 e2 hds fun x1 x2 h' tk p1 p2 hz' u1 u2 ht hsz hk => ?_
        exact hQ s₁.heap.objs.size x1 x2 h' tk ⟨p1, p2⟩ (.inl ⟨_, ht, rfl, _, rfl⟩) ⟨hz', u1, u2⟩ fun c o hc e => hk c o (fun q => hc (by simp [q])) (fun q => hc (by simp [q])) (fun q => hc (by simp [q])) (fun q => hc (by simp [q])) e
      done := fun s₁ Q₁ E₁ st hQ => by
        obtain ⟨hz, t1, t2⟩ := st
        refine PySem.zl_end S D1 D2 hz t1 t2 (by omega) (by omega) (by omega) fun h' tk hk => ?_
        exact hQ h' tk fun c o hc e => hk c o (fun q => hc (by simp [q])) (fun q => hc (by simp [q])) (fun q => hc (by simp [q])) (fun q => hc (by simp [q])) e }
/-- dict(zip(x, y)) -/
def tDz (K : PySem.W.Frag) (ta : TA) : TE := fun σ H Q => ta σ H fun vs H1 => ∃ (F : Hp) (a b : Addr) (vx vy : List V) (k1 k2 : Kd) (kx ky : List PyData) (prs : List (PyData × PyData)), vs = [.ref a, .ref b] ∧ Kd.sq k1 K H1 a vx ∧ Kd.sq k2 K H1 b vy ∧ Same F H1 ∧ RpA K F kx vx ∧ RpA K F ky vy ∧
  pairsN ((kx.zip ky).map fun p => .tuple [p.1, p.2]) = some prs ∧ min vx.length vy.length ≤ sizeLine ∧ prs.isEmpty = false ∧ Res K F H1 (.ow (.dict (dMergeN [] prs))) Q
theorem zip_rpN {K : PySem.W.Frag} {F : Hp} : ∀ {kx ky : List PyData} {vx vy : List V} {its its2 : List Value} {prs : List (PyData × PyData)}, RpA K F kx vx → RpA K F ky vy → Vals vx its → Vals vy its2 → pairsN ((kx.zip ky).map fun p => .tuple [p.1, p.2]) = some prs →
    ∃ ps : List (NestedKey × Addr × Value), RpN K F prs ps ∧ ps.length = min its.length its2.length ∧ ∀ (i : Nat) (key v : Value), its[i]? = some key → its2[i]? = some v → ∃ k b, ps[i]? = some (k, b, v) ∧ key = .ref b
  | [], ky, vx, vy, its, its2, prs, rx, ry, ux, uy, e => by
    unfold RpA at rx
    subst rx
    cases ux
    cases e
    exact ⟨[], by simp [RpN], by simp, fun i key v h => by simp at h⟩
  | x :: kx, [], vx, vy, its, its2, prs, rx, ry, ux, uy, e => by
    unfold RpA at ry
    subst ry
    cases uy
    cases e
    exact ⟨[], by simp [RpN], by simp, fun i key v _ h => by simp at h⟩
  | x :: kx, y :: ky, vx, vy, its, its2, prs, rx, ry, ux, uy, e => by
    unfold RpA at rx ry
    obtain ⟨v1, t1, rfl, a1, a2⟩ := rx
    obtain ⟨v2, t2, rfl, b1, b2⟩ := ry
    cases ux with
    | cons u1 ux =>
      cases uy with
      | cons u2 uy =>
        rw [List.zip_cons_cons, List.map_cons] at e
        unfold pairsN at e
        simp only at e
        cases hk : topKey x with
        | none => rw [hk] at e; cases e
        | some q =>
          rw [hk] at e
          simp only at e
          cases hp : pairsN ((kx.zip ky).map fun p => PyData.tuple [p.1, p.2]) with
          | none => rw [hp] at e; cases e
          | some prs0 =>
            rw [hp] at e
            cases e
            obtain ⟨ps, c1, c2, c3⟩ := zip_rpN a2 b2 ux uy hp
            obtain ⟨b, rfl⟩ := top_ref hk a1
            cases u1
            rename_i w2 _
            refine ⟨(q, b, w2) :: ps, ?_, by rw [List.length_cons, List.length_cons, List.length_cons, c2]; omega, fun i key v h1 h2 => ?_⟩
            · unfold RpN
              exact ⟨q, b, w2, v2, ps, rfl, hk, a1, u2, b1, c1⟩
            · cases i with
              | zero =>
                simp only [List.getElem?_cons_zero, Option.some.injEq] at h1 h2
                subst h1 h2
                exact ⟨q, b, rfl, rfl⟩
              | succ i => exact c3 i key v (by simpa using h1) (by simpa using h2)
theorem pe_dz {X : Cx} {e e2 : Expr} {ta : TA} {p0 p pos pos2 : Pos} (hc : X.calm = true) (hu : X.A.units + 100 < cLine) (hgl : Gl X "dict") (hml : X.mg "dict" = none) (hg : Gl X "zip") (hm : X.mg "zip" = none) (ha : PA X [e, e2] ta)
    (hs1 : starEach [.Call (.Name "zip" p) [e, e2] [] pos2] X.env = (false, eval (.Call (.Name "zip" p) [e, e2] [] pos2) X.env) :: starEach [] X.env := by rfl)
    (hp1 : (backTo pos (starEach [] X.env)).any (·.1) = false := by rfl) (hs : starEach [e, e2] X.env = (false, eval e X.env) :: starEach [e2] X.env := by rfl) (hpl : (backTo pos2 (starEach [e2] X.env)).any (·.1) = false := by rfl) :
    PE X (.Call (.Name "dict" p0) [.Call (.Name "zip" p) [e, e2] [] pos2] [] pos) (tDz X.K ta) := by
  refine ⟨fun pins s σ H Q I h => ?_⟩
  refine wpAny_Call_Name_kw (ld_blt I hgl hml (by decide +kernel : bootBuiltins "dict" = some (.type "dict")) ?_)
  refine PyProof.Rows.callWith_type1 ?_ hs1 hp1
  rw [hs1]
  show wpAny _ _ (spliced ((false, eval (.Call (.Name "zip" p) [e, e2] [] pos2) X.env) :: backTo pos (starEach [] X.env))) _ _ s
  refine Calls.spliced_cons ?_
  refine wpAny_Call_Name_kw (ld_blt I hg hm PyProof.Rows.boot_zip ?_)
  refine PyProof.Rows.callWith_type1 (thn (ha.run pos2 pins s σ H _ I h) fun us s1 ⟨vs, H1, I1, r1, q1⟩ => ?_) hs hpl
  obtain ⟨F, a, b, vx, vy, k1, k2, kx, ky, prs, rfl, hqx, hqy, le, rx, ry, hpn, hn, hne, q⟩ := q1
  obtain ⟨u1, u2, rfl, ra, rb⟩ := vals2 r1
  cases (show u1 = Value.ref a from ra)
  cases (show u2 = Value.ref b from rb)
  obtain ⟨its, rv, p1, la⟩ := k1.of I1 hqx
  obtain ⟨its2, rv2, p2, lb⟩ := k2.of I1 hqy
  have l1 := rv.length
  have l2 := rv2.length
  obtain ⟨ps, rn, pl, pp⟩ := zip_rpN rx ry rv rv2 hpn
  refine wpAny_mono (Q := fun v s1 => wpAny (model X.prog X.w) X.A (call (.type "dict") [v]) (EP X pins σ Q) X.xe s1) ?_ (fun v s4 h4 => Calls.spliced_nil h4) fun _ _ z => z
  refine PySem.zip_begins2 (k1.begins a its.toArray) (k2.begins b its2.toArray) p1 p2 fun h' hz hTI hTO o1 o2 hsz hk => ?_
  have I2 : Inv X pins σ H1 { s1 with heap := h' } := I1.kept (t' := s1.toks) hk
  have is1 : k1.is h' a its.toArray := by
    cases k1
    · exact p1.at fun o e => hk _ o e
    · exact p1.at fun o e => hk _ o e
  have is2 : k2.is h' b its2.toArray := by
    cases k2
    · exact p2.at fun o e => hk _ o e
    · exact p2.at fun o e => hk _ o e
  have P := PairArg.zipK (prog := X.prog) (w := X.w) (k1 := k1) (k2 := k2) (sep2 la lb) (Nat.ne_of_lt la) (Nat.ne_of_lt (Nat.lt_succ_of_lt lb)) its.toArray its2.toArray
  have rn' := RpN.mono le _ _ rn
  have lt1 : s1.heap.objs.size < h'.objs.size := by rw [hsz]; exact Nat.lt_add_of_pos_right (by decide)
  refine call_dict_pairsH (s := { s1 with heap := h' }) (knd := nestedKind X.prog X.w) (ps := ps) P (I1.ok.hd hc) ?_ ⟨hz, hTI, ⟨_, _, hTO⟩, k1.first o1, k2.first o2, is1, is2⟩ ⟨by simp only [List.size_toArray]; exact pl, fun i key v hr => ?_⟩ ?_ (by simp only [List.size_toArray]; rw [← l1, ← l2]; exact hn) fun h'' tk hd k => ?_
  · show X.A.in1.in1.units + 8 < cLine
    rw [Around.in1_units, Around.in1_units]
    omega
  · exact pp i key v (by simpa using hr.1) (by simpa using hr.2)
  · intro g hg2 x hx
    have base := (rn'.keys I1 x hx).1
    refine nestedKind_stays.stays (fun b o vs n e z => ?_) base
    have hb : b < s1.heap.objs.size := Heap.lt_size e
    refine hg2 b o (Nat.ne_of_lt (Nat.lt_trans hb lt1)) (fun m => ?_) (hk b o e)
    simp only [List.mem_cons, List.not_mem_nil, or_false] at m
    rcases m with m | m | m | m
    · rw [m] at hb; exact absurd hb (Nat.not_lt.mpr (Nat.le_add_right _ _))
    · rw [m] at hb; exact absurd hb (Nat.not_lt.mpr (Nat.le_add_right _ _))
    · rw [m] at hb; exact absurd hb (Nat.lt_irrefl _)
    · rw [m] at hb; exact absurd hb (Nat.not_lt.mpr (Nat.le_add_right _ _))
  · have k' : ∀ c o, s1.heap.get? c = some o → h''.get? c = some o := fun c o e => k c o (fun m => by
      have hb := Heap.lt_size e
      simp only [List.mem_cons, List.not_mem_nil, or_false] at m
      rcases m with m | m | m | m
      · rw [m] at hb; exact absurd hb (Nat.not_lt.mpr (Nat.le_add_right _ _))
      · rw [m] at hb; exact absurd hb (Nat.not_lt.mpr (Nat.le_add_right _ _))
      · rw [m] at hb; exact absurd hb (Nat.lt_irrefl _)
      · rw [m] at hb; exact absurd hb (Nat.not_lt.mpr (Nat.le_add_right _ _))) (hk c o e)
    have hz : (storedAllH [] ps).length ≤ sizeLine := Nat.le_trans (storedAll_le ps) (by rw [pl, ← l1, ← l2]; exact hn)
    have hp : H1 h'.objs.size = none := I1.hok.fresh (Nat.le_of_lt lt1)
    have hms : (h'.objs.size == sysModules) = false := beq_eq_false_iff_ne.mpr (Nat.ne_of_gt (Nat.lt_trans I1.big lt1))
    have rm := RpN.merge rn (acc := []) (xacc := []) (by simp [RpN])
    have nd : ((storedAllH [] ps).map fun x => x.1).Nodup := by obtain ⟨_, _, _, _, _, _, _, _, n⟩ := hd; exact n
    have hh : ∀ x ∈ storedAllH [] ps, ∀ w w' : World, x.1.hash w = x.1.hash w' := fun x hx => (RpN.keys I1 (RpN.mono le _ _ rm) x hx).2
    obtain ⟨o, ent, ok⟩ := dn_new (H' := H1) hd hh
    have new : ObjOk X.prog X.w (upd H1 h'.objs.size (DN h'.objs.size o)) h'' h'.objs.size (DN h'.objs.size o) := ⟨ok.1, ⟨o, ok.1⟩, fun g1 g2 q k => k o q⟩
    refine ⟨.ref h'.objs.size, upd H1 h'.objs.size (DN h'.objs.size o), I1.laid (t' := tk) k' (Nat.le_of_lt lt1) new, rfl, ?_⟩
    exact q (.ref h'.objs.size) F _ (Fr.refl.up hp) (le.trans (same_up hp)) ⟨h'.objs.size, rfl, ⟨le.free hp, .inr ⟨o, _, upd_same, ⟨⟨.inl upd_same, ent, hms, nd, hz⟩, rn.merge_ne hne⟩, rm⟩⟩, hp⟩
section
variable {C : Call} {K : PySem.W.Frag} {F H F1 H1 F2 H2 : Hp} {r r1 r2 : Env} {σ σ1 : SG}
theorem core_dz {es : Exs} {Q : VK} (hl : es.len = 2) (h : tE C K (.dz es) σ H Q) : tDz K (tEs C K es) σ H Q := by
  obtain ⟨F, r, w, r', wd, he, q⟩ := h
  simp only [evE] at he
  split at he
  · rename_i ws r1 h1
    split at he
    · rename_i ds h2
      split at he
      · rename_i xs h3
        split at he
        · rename_i prs hp
          split at he
          · rename_i h4
            simp only [Option.some.injEq, Prod.mk.injEq] at he
            obtain ⟨rfl, rfl⟩ := he
            obtain ⟨h4, h5, h6⟩ := h4
            refine ⟨F, r, ws, r1, wd, h1, fun vs F1 H1 p => ?_⟩
            unfold zipD at h3
            split at h3
            · rename_i d1 d2
              split at h3
              · rename_i as bs i1 i2
                cases h3
                obtain ⟨x, t, rfl, e1, h2⟩ := seeL_cons' h2
                obtain ⟨y, t, rfl, e2, h2⟩ := seeL_cons' h2
                obtain rfl := seeL_nil' h2
                obtain ⟨v, w, rfl, p1, p2⟩ := p.rp.two
                obtain ⟨k1, a, avs, rfl, ra, q1⟩ := seq_keep (hs := ownLk r1 [x, y]) p.wd p1 e1 i1 fun _ h => ownLk_cons h
                obtain ⟨k2, b, bvs, rfl, rb, q2⟩ := seq_keep (hs := ownLk r1 [x, y]) p.wd p2 e2 i2 fun _ h => ownLk_tail h
                have la := ra.len
                have lb := rb.len
                refine ⟨F1, a, b, avs, bvs, k1, k2, as, bs, prs, rfl, q1 F1 H1 Fr.refl p.wd.le, q2 F1 H1 Fr.refl p.wd.le, p.wd.le, ra, rb, hp, ?_, h6, Res.of p.fr p.wd p.sub q⟩
                rw [← la, ← lb, ← SZ_eq]
                simpa [List.length_zip] using h5
              · cases h3
            · simp at h4
            · cases h3
          · cases he
        · cases he
      · cases he
    · cases he
  · cases he
/-! ### items -/
theorem RpN.split : ∀ {kvs : List (PyData × PyData)} {xs : List (NestedKey × Addr × Value)}, RpN K F kvs xs → ∃ ys : List V, (∀ (i : Nat) (x : NestedKey × Addr × Value), xs[i]? = some x → ∃ y, ys[i]? = some y ∧ RelV y x.2.2) ∧
    ∀ (i : Nat) (kv : PyData × PyData), kvs[i]? = some kv → ∃ x y, xs[i]? = some x ∧ ys[i]? = some y ∧ Rp K F kv.1 (.ref x.2.1) ∧ Rp K F kv.2 y
  | [], xs, h => by
    unfold RpN at h
    subst h
    exact ⟨[], fun i x e => by simp at e, fun i kv e => by simp at e⟩
  | (k, d) :: kvs, xs, h => by
    unfold RpN at h
    obtain ⟨q, b, u, v, r, rfl, e, hk, ru, hd, h⟩ := h
    obtain ⟨ys, y1, y2⟩ := RpN.split h
    refine ⟨v :: ys, fun i x hx => ?_, fun i kv hk2 => ?_⟩
    · cases i with
      | zero => have e' : (q, b, u) = x := Option.some.inj hx; subst e'; exact ⟨v, rfl, ru⟩
      | succ i => obtain ⟨y, a1, a2⟩ := y1 i x (by simpa using hx); exact ⟨y, by simpa using a1, a2⟩
    · cases i with
      | zero => have e' : (k, d) = kv := Option.some.inj hk2; subst e'; exact ⟨(q, b, u), v, rfl, rfl, hk, hd⟩
      | succ i => obtain ⟨x, y, a1, a2, a3, a4⟩ := y2 i kv (by simpa using hk2); exact ⟨x, y, by simpa using a1, by simpa using a2, a3, a4⟩
end
/-- the entries of the dict at d, each in a new pair -/
def Inm (d : Addr) (o : Obj) (xs : List (NestedKey × Addr × Value)) (ys : List V) : L2.It :=
  ⟨fun i H => Rd H d (DN d o) ∧ i < xs.length,
    fun i H v H' => ∃ T x y, v = .ref T ∧ H T = none ∧ xs[i]? = some x ∧ ys[i]? = some y ∧ H' = upd H T (.tup [.ref x.2.1, y]),
    fun i H => Rd H d (DN d o) ∧ xs.length = i⟩
theorem ent_at {o : Obj} {xs : List (NestedKey × Addr × Value)} (w : World) (e : Ent o xs) : ∃ es ep, o.ExactDict ∧ o.data = .dict es ep ∧ es.size = xs.length ∧ ∀ (i : Nat) (x : NestedKey × Addr × Value), xs[i]? = some x → ∃ h : i < es.size, es[i].key = .ref x.2.1 ∧ es[i].val = x.2.2 := by
  obtain ⟨h2, es, ep, h3, h4⟩ := e
  have h4 := h4 w
  have sz : es.size = xs.length := by rw [← Array.length_toList, h4, List.length_map]
  refine ⟨es, ep, h2, h3, sz, fun i x hx => ?_⟩
  have hl : i < es.size := by rw [sz]; exact (List.getElem?_eq_some_iff.mp hx).1
  have e1 : es[i]? = some (⟨x.1.hash w, .ref x.2.1, x.2.2⟩ : DictEntry) := by
    rw [← Array.getElem?_toList, h4, List.getElem?_map, hx]
    rfl
  rw [Array.getElem?_eq_getElem hl] at e1
  have e1 := Option.some.inj e1
  exact ⟨hl, by rw [e1], by rw [e1]⟩
theorem turn_im {P : Program} {w : World} {K : PySem.W.Frag} {elts : List Expr} {kk : Nat} {tpos : Pos} {d it : Addr} {o : Obj} {xs : List (NestedKey × Addr × Value)} {ys : List V} {es : Array DictEntry} {ep : Nat} (h2 : o.ExactDict) (h3 : o.data = .dict es ep) (hn : es.size = xs.length)
    (he : ∀ (i : Nat) (x : NestedKey × Addr × Value), xs[i]? = some x → ∃ h : i < es.size, es[i].key = .ref x.2.1 ∧ es[i].val = x.2.2) (hy : ∀ (i : Nat) (x : NestedKey × Addr × Value), xs[i]? = some x → ∃ y, ys[i]? = some y ∧ RelV y x.2.2) :
    Turn P w K (.Tuple elts kk tpos) (Inm d o xs ys) [it] it (fun i h => ∃ ok ov, IsItemIter h it d i es.size ep ok ov) where
  mem := by simp
  obj := fun i h st b hb => by
    have e : b = it := by simpa using hb
    subst e
    obtain ⟨ok, ov, e⟩ := st
    exact ⟨_, e, fun v z => nomatch z⟩
  keep := fun i h h' st k => let ⟨ok, ov, e⟩ := st; ⟨ok, ov, k it (by simp) _ e⟩
  item := by
    intro X hP hw hK hc i pins s σ H E I hf st hg
    subst hP hw hK
    obtain ⟨rd, hi⟩ := hg
    obtain ⟨x, hx⟩ : ∃ x, xs[i]? = some x := ⟨xs[i], List.getElem?_eq_getElem hi⟩
    obtain ⟨hl, ek, ev⟩ := he i x hx
    obtain ⟨y, hyy, ry⟩ := hy i x hx
    obtain ⟨ok, ov, hit⟩ := st
    have hlt : it < s.heap.objs.size := Heap.lt_size hit
    have dr : s.heap.DictRaw d es ep := ⟨o, dn_raw I rd, h2, h3⟩
    refine wpAny_pyNext_items_item_raw hit dr hl fun h' ho hT hz hk => ?_
    refine ⟨_, rfl, wpAny_letOwnedTupleGo_items (s := { s with heap := h' }) ho fun h'' he' sb => ?_⟩
    have hT2 : h''.get? s.heap.objs.size = some { cls := .type "tuple", data := .seq #[.ref x.2.1, x.2.2] } := by
      rw [← ek, ← ev]
      exact (sb.2 _ (Nat.ne_of_gt hlt)).trans hT
    have new : ObjOk X.prog X.w (upd H s.heap.objs.size (.tup [.ref x.2.1, y])) h'' s.heap.objs.size (.tup [.ref x.2.1, y]) :=
      ⟨by show 2 ≤ sizeLine; decide, [.ref x.2.1, x.2.2], .cons rfl (.cons ry .nil), ⟨_, hT2, rfl, _, rfl⟩⟩
    have I1 : Inv X pins σ (upd H s.heap.objs.size (.tup [.ref x.2.1, y])) { s with heap := h'' } :=
      I.turnedNew (t' := s.toks) (ch := [it]) (fun b ob hb e => (sb.2 b (by simpa using hb)).trans (hk b ob (by simpa using hb) e)) hf (Nat.le_refl _) new
    refine ⟨.ref s.heap.objs.size, _, I1, rfl, ⟨_, x, y, rfl, I.hok.fresh (Nat.le_refl _), hx, hyy, rfl⟩, ⟨_, _, he'⟩, fun b hb => ?_⟩
    have e : b = it := by simpa using hb
    rw [e, upd_ne (Nat.ne_of_lt hlt)]
    exact (hf it (by simp)).1
  done := by
    intro X hP hw hK hc i pins s σ H E I hf st hg
    subst hP hw hK
    obtain ⟨rd, hi⟩ := hg
    obtain ⟨f0, f1, f2, f3, f4, f5⟩ := hf it (by simp)
    obtain ⟨ok, ov, hit⟩ := st
    have dr : s.heap.DictRaw d es ep := ⟨o, dn_raw I rd, h2, h3⟩
    exact wpAny_pyNext_items_end_raw (I.ok.hd hc) hit dr (by rw [hn, hi]; exact Nat.le_refl _) fun h' eb => ⟨rfl, I.turned (t' := s.toks) (fun b ob hb e => eb b ob hb e) f0 f1 f3 f4 f5⟩
  self := fun A i s Q E st h => let ⟨_, _, e⟩ := st; PySem.W.kcp_self e h
def iIm (K : PySem.W.Frag) (td : TE) : TI := fun σ H R => td σ H fun x H1 => ∃ d o xs ys, x = .ref d ∧ Rd H1 d (DN d o) ∧ Ent o xs ∧ (d == sysModules) = false ∧ (∀ (i : Nat) (x : NestedKey × Addr × Value), xs[i]? = some x → ∃ y, ys[i]? = some y ∧ RelV y x.2.2) ∧ R (Inm d o xs ys) H1
theorem pi_im {X : Cx} {e : Expr} {td : TE} {apos cpos tpos : Pos} {elts : List Expr} {kk : Nat} (he : PE X e td) (hbase : attributeBase e "items" X.env (eval e X.env) = eval e X.env := by rfl) (hline : (apos.endLine == cpos.line) = true := by rfl) :
    PI X (.Tuple elts kk tpos) (.Call (.Attribute e "items" apos) [] [] cpos) (iIm X.K td) := by
  refine ⟨fun pins s σ H R I h => ?_⟩
  refine wpAny_Call_method (T := "dict") (id := "dict.items") hbase rfl hline PySem.F.plainAttrs_dict PySem.F.slot_dict_items PySem.F.type_dict_items (thn (he.run pins s σ H _ I h) fun u s1 ⟨x, H1, I1, rx, d, o, xs, ys, ex, rd, ent, hs, hy, q⟩ => ?_)
  subst ex
  obtain rfl : u = Value.ref d := rx
  obtain ⟨es, ep, h2, h3, hn, hat⟩ := ent_at X.w ent
  have h1 := dn_raw I1 rd
  have dr : s1.heap.DictRaw d es ep := ⟨o, h1, h2, h3⟩
  refine ⟨⟨o, h1, h2.1⟩, fun a e => by cases e; exact ⟨o, h1, h2.2.1⟩, ?_⟩
  have I2 : Inv X pins σ H1 { s1 with heap := s1.heap.push { cls := .type "dict_items", data := .fields #[.ref d] } } := I1.kept (t' := s1.toks) fun b ob q => Heap.get?_push_of_some _ q
  have fin : wpAny (model X.prog X.w) X.A (pyIter (.ref s1.heap.objs.size)) (PIE X pins σ (.Tuple elts kk tpos) R) X.xe { s1 with heap := s1.heap.push { cls := .type "dict_items", data := .fields #[.ref d] } } := by
    refine wpAny_pyIter_items_raw (d := d) (es := es) (ep := ep) ⟨_, Heap.get?_push_size _ rfl, rfl, rfl⟩ ⟨o, Heap.get?_push_of_some _ h1, h2, h3⟩ (pi_one (tk := s1.toks) I2 _ (turn_im h2 h3 hn hat hy) ⟨.none, .none, ?_⟩ q)
    exact Heap.get?_push_size _ rfl
  show wpAny _ _ (callWith cpos (.builtin "dict.items") [.ref d] [] []) _ X.xe s1
  exact method_meetsIn PySem.F.slot_dict_items PySem.F.entry_dict_items rfl (PySem.evalArgs_none ⟨rfl, ⟨o, h1, h2.1⟩, PySem.F.args_dict_items_1 _, _, meets_dict_items_raw d hs, ⟨es, ep, dr⟩, fin⟩)
/-- the keys of the dict at d -/
def Ink (d : Addr) (o : Obj) (xs : List (NestedKey × Addr × Value)) : L2.It :=
  ⟨fun i H => Rd H d (DN d o) ∧ i < xs.length, fun i H v H' => ∃ x, xs[i]? = some x ∧ v = .ref x.2.1 ∧ H' = H, fun i H => Rd H d (DN d o) ∧ xs.length = i⟩
theorem turn_ky {P : Program} {w : World} {K : PySem.W.Frag} {tg : Expr} {d it : Addr} {o : Obj} {xs : List (NestedKey × Addr × Value)} {es : Array DictEntry} {ep : Nat} (h2 : o.ExactDict) (h3 : o.data = .dict es ep) (hn : es.size = xs.length)
    (he : ∀ (i : Nat) (x : NestedKey × Addr × Value), xs[i]? = some x → ∃ h : i < es.size, es[i].key = .ref x.2.1 ∧ es[i].val = x.2.2) :
    Turn P w K tg (Ink d o xs) [it] it (fun i h => h.IsKeyIter it d i es.size ep) where
  mem := by simp
  obj := fun i h st b hb => by
    have e : b = it := by simpa using hb
    subst e
    obtain ⟨oi, e, c, dd⟩ := st
    exact ⟨oi, e, fun v z => by rw [dd] at z; cases z⟩
  keep := fun i h h' st k => st.at fun oi e => k it (by simp) oi e
  item := by
    intro X hP hw hK hc i pins s σ H E I hf st hg
    subst hP hw hK
    obtain ⟨rd, hi⟩ := hg
    obtain ⟨f0, f1, f2, f3, f4, f5⟩ := hf it (by simp)
    obtain ⟨x, hx⟩ : ∃ x, xs[i]? = some x := ⟨xs[i], List.getElem?_eq_getElem hi⟩
    obtain ⟨hl, ek, ev⟩ := he i x hx
    have dr : s.heap.DictRaw d es ep := ⟨o, dn_raw I rd, h2, h3⟩
    refine wpAny_pyNext_keys_item_raw st dr hl fun h' st' sb => ?_
    have I1 : Inv X pins σ H { s with heap := h' } := I.turned (t' := s.toks) (fun b ob hb e => (sb.2 b hb).trans e) f0 f1 f3 f4 f5
    obtain ⟨oi, e, c, dd⟩ := id st'
    exact ⟨es[i].key, rfl, go_of (s := { s with heap := h' }) e c dd (by decide) ⟨.ref x.2.1, H, I1, ek, ⟨x, hx, rfl, rfl⟩, st', fun b hb => (hf b hb).1⟩⟩
  done := by
    intro X hP hw hK hc i pins s σ H E I hf st hg
    subst hP hw hK
    obtain ⟨rd, hi⟩ := hg
    obtain ⟨f0, f1, f2, f3, f4, f5⟩ := hf it (by simp)
    have dr : s.heap.DictRaw d es ep := ⟨o, dn_raw I rd, h2, h3⟩
    exact wpAny_pyNext_keys_end_raw (I.ok.hd hc) st dr (by rw [hn, hi]; exact Nat.le_refl _) fun h' eb => ⟨rfl, I.turned (t' := s.toks) (fun b ob hb e => eb b ob hb e) f0 f1 f3 f4 f5⟩
  self := fun A i s Q E st h => by
    refine wpAny_pyIter_slot st.typeIs F.slot_dict_keyiterator_iter (wpAny_call_entry F.slot_dict_keyiterator_iter st.typeIs F.entry_dict_keyiterator_iter ?_ (F.args_dict_keyiterator_iter_1 _))
    show wpAny _ _ (ret (.ref it)) _ _ s
    exact wpAny_pure ⟨_, rfl, "dict_keyiterator", _, st.typeIs, F.slot_dict_keyiterator_next.lookup, h⟩
def iKy (K : PySem.W.Frag) (td : TE) : TI := fun σ H R => td σ H fun x H1 => ∃ d o xs, x = .ref d ∧ Rd H1 d (DN d o) ∧ Ent o xs ∧ (d == sysModules) = false ∧ R (Ink d o xs) H1
theorem pi_ky {X : Cx} {e tg : Expr} {td : TE} (he : PE X e td) : PI X tg e (iKy X.K td) := by
  refine ⟨fun pins s σ H R I h => thn (he.run pins s σ H _ I h) fun u s1 ⟨x, H1, I1, rx, d, o, xs, ex, rd, ent, hs, q⟩ => ?_⟩
  subst ex
  obtain rfl : u = Value.ref d := rx
  obtain ⟨es, ep, h2, h3, hn, hat⟩ := ent_at X.w ent
  have h1 := dn_raw I1 rd
  refine wpAny_pyIter_dict_raw hs ⟨o, h1, h2, h3⟩ (pi_one (tk := s1.toks) I1 _ (turn_ky h2 h3 hn hat) ?_ q)
  exact ⟨_, Heap.get?_push_size _ rfl, rfl, rfl⟩
section
variable {C : Call} {K : PySem.W.Frag} {F H F1 H1 F2 H2 : Hp} {r r1 r2 : Env} {σ σ1 : SG}
/-- a dict of such keys that is looked at stays while its slot is out of reach -/
theorem dn_keep {w : Sl} {v : V} {kvs : List (PyData × PyData)} {hs : List Nat} (wd : Wd K F H r σ) (q : RpV K F H r σ w v) (e : see r w = some (.dict kvs)) (hd : headN kvs = true) (hh : ∀ i ∈ ownLk r [w], i ∈ hs) :
    ∃ a o xs, v = .ref a ∧ DNk H a o xs ∧ RpN K F kvs xs ∧ ∀ F2 H2, Fr (Own (hide r hs) σ) F H F2 H2 → Same F2 H2 → Rd H2 a (DN a o) := by
  have frz : Rp K F (.dict kvs) v → ∃ a o xs, v = .ref a ∧ DNk H a o xs ∧ RpN K F kvs xs ∧ ∀ F2 H2, Fr (Own (hide r hs) σ) F H F2 H2 → Same F2 H2 → Rd H2 a (DN a o) := fun q => by
    unfold Rp at q
    obtain ⟨a, rfl, ⟨kv, _, rk⟩ | ⟨o, xs, n, rn⟩⟩ := q
    · rw [rk.head] at hd; cases hd
    · exact ⟨a, o, xs, rfl, ⟨Rd.mono wd.le n.rd, n.ent, n.sys, n.nd, n.sz⟩, rn, fun F2 H2 f le => Rd.mono le (Rd.mono f.ff n.rd)⟩
  have own : ∀ {a : Addr}, OwnAt K F H (.dict kvs) a → ¬ Own (hide r hs) σ a → ∃ b o xs, V.ref a = .ref b ∧ DNk H b o xs ∧ RpN K F kvs xs ∧ ∀ F2 H2, Fr (Own (hide r hs) σ) F H F2 H2 → Same F2 H2 → Rd H2 b (DN b o) := fun {a} z n => by
    obtain ⟨_, ⟨kv, _, rk⟩ | ⟨o, xs, z1, z3, z2⟩⟩ := z
    · rw [rk.head] at hd; cases hd
    · exact ⟨a, o, xs, rfl, z3.n, z2, fun F2 H2 f le => .inl (f.hh a _ z1 n)⟩
  cases w with
  | no => exact q.elim
  | fr x => cases e; exact frz q
  | ow x =>
    cases e
    obtain ⟨a, rfl, o, n⟩ := q
    exact own o fun k => n (own_hide k)
  | ex c => cases e
  | rz c => cases e
  | ln i => cases e
  | lk i =>
    simp only [see] at e
    cases h : r[i]? with
    | none => rw [h] at e; cases e
    | some x =>
      rw [h] at e
      have z := wd.sl i x h
      cases x with
      | fr y =>
        cases e
        obtain ⟨u, e1, z⟩ := z
        rw [show σ[i]? = some (some v) from q] at e1
        cases e1
        exact frz z
      | ow y =>
        cases e
        obtain ⟨u, e1, z⟩ := z
        rw [show σ[i]? = some (some v) from q] at e1
        cases e1
        refine own z fun k => ?_
        obtain ⟨j, d, g1, g2⟩ := k
        rcases hide_get g1 with ⟨_, e⟩ | ⟨nj, e⟩
        · cases e
        · have := wd.inj i j _ d u h e q g2
          subst this
          exact nj (hh i (by simp [ownLk, h]))
      | _ => cases e
theorem core_ky {e : Ex} {R : L2.It → Hp → Prop} (h : tI C K (.ky e) σ H R) : iKy K (tE C K e) σ H R := by
  obtain ⟨F, r, xs, hs, r', wd, he, q⟩ := h
  simp only [evI] at he
  split at he
  · rename_i w r1 h1
    split at he
    · rename_i kvs h2
      split at he
      · rename_i hd
        simp only [Option.some.injEq, Prod.mk.injEq] at he
        obtain ⟨rfl, rfl, rfl⟩ := he
        refine ⟨F, r, w, r1, wd, h1, fun v F1 H1 p => ?_⟩
        obtain ⟨a, o, xs, rfl, n, rn, kp⟩ := dn_keep (hs := ownLk r1 [w]) p.wd p.rp h2 hd fun _ h => h
        obtain ⟨ys, y1, y2⟩ := rn.split
        refine ⟨a, o, xs, rfl, n.rd, n.ent, n.sys, q _ F1 H1 p.fr p.wd p.sub (fun j hj => of_ownLk hj) ?_⟩
        intro F2 H2 f le
        have rd2 := kp F2 H2 f le
        have ln := rn.len
        refine ⟨⟨rd2, by rw [List.length_map, ln]⟩, fun i d hdd => ?_⟩
        rw [List.getElem?_map] at hdd
        cases hk : kvs[i]? with
        | none => rw [hk] at hdd; cases hdd
        | some kv =>
          rw [hk] at hdd
          cases hdd
          obtain ⟨x, y, a1, a2, a3, a4⟩ := y2 i kv hk
          refine ⟨⟨rd2, (List.getElem?_eq_some_iff.mp a1).1⟩, fun v H3 ⟨x', b1, e1, e3⟩ => ?_⟩
          subst e1 e3
          rw [a1] at b1
          cases b1
          exact ⟨F2, Fr.refl, le, Rp.mono f.ff _ _ a3⟩
      · cases he
    · cases he
  · cases he
theorem core_im {e : Ex} {R : L2.It → Hp → Prop} (h : tI C K (.im e) σ H R) : iIm K (tE C K e) σ H R := by
  obtain ⟨F, r, xs, hs, r', wd, he, q⟩ := h
  simp only [evI] at he
  split at he
  · rename_i w r1 h1
    split at he
    · rename_i kvs h2
      split at he
      · rename_i hd
        simp only [Option.some.injEq, Prod.mk.injEq] at he
        obtain ⟨rfl, rfl, rfl⟩ := he
        refine ⟨F, r, w, r1, wd, h1, fun v F1 H1 p => ?_⟩
        obtain ⟨a, o, xs, rfl, n, rn, kp⟩ := dn_keep (hs := ownLk r1 [w]) p.wd p.rp h2 hd fun _ h => h
        obtain ⟨ys, y1, y2⟩ := rn.split
        refine ⟨a, o, xs, ys, rfl, n.rd, n.ent, n.sys, y1, q _ F1 H1 p.fr p.wd p.sub (fun j hj => of_ownLk hj) ?_⟩
        intro F2 H2 f le
        have rd2 := kp F2 H2 f le
        have ln := rn.len
        refine ⟨⟨rd2, by rw [List.length_map, ln]⟩, fun i d hdd => ?_⟩
        rw [List.getElem?_map] at hdd
        cases hk : kvs[i]? with
        | none => rw [hk] at hdd; cases hdd
        | some kv =>
          rw [hk] at hdd
          cases hdd
          obtain ⟨x, y, a1, a2, a3, a4⟩ := y2 i kv hk
          refine ⟨⟨rd2, (List.getElem?_eq_some_iff.mp a1).1⟩, fun v H3 ⟨T, x', y', e, hT, b1, b2, e3⟩ => ?_⟩
          subst e e3
          rw [a1] at b1
          rw [a2] at b2
          cases b1
          cases b2
          exact new_tup le (RpA.two (Rp.mono f.ff _ _ a3) (Rp.mono f.ff _ _ a4)) hT
      · cases he
    · cases he
  · cases he
end
end Bx

set_option Elab.async false
set_option linter.all false
set_option maxRecDepth 100000
set_option autoImplicit false
set_option maxHeartbeats 4000000
/-! d[k] = v of a dict of one's own whose keys are tuples. -/
namespace Bx
open PySem PySem.Spec PyProof.Rows L2
/-- such a dict, or an empty one -/
def OwnN (K : PySem.W.Frag) (F H : Hp) (kvs : List (PyData × PyData)) (a : Addr) : Prop := (kvs = [] ∧ H a = some (.dK [])) ∨ ∃ o xs, H a = some (DN a o) ∧ DNk H a o xs ∧ RpN K F kvs xs
def rSetN (K : PySem.W.Frag) : TSet := fun o i v H Q => ∃ (F : Hp) (a : Addr) (kvs : List (PyData × PyData)) (k d : PyData) (q : NestedKey), o = .ref a ∧ Same F H ∧ OwnN K F H kvs a ∧ topKey k = some q ∧ Rp K F k i ∧ Rp K F d v ∧ kvs.length < SZ ∧
  ∀ ob xs, DNk (upd H a (DN a ob)) a ob xs → RpN K F (dPutN kvs k q d) xs → Q (upd H a (DN a ob))
theorem store_len {xs : List (NestedKey × Addr × Value)} {q : NestedKey} {b : Addr} {u : Value} : (storedH xs q b u).length ≤ xs.length + 1 := by
  unfold storedH
  split
  · rw [List.length_map]; omega
  · rw [List.length_append]; exact Nat.le_refl _
theorem set_n {X : Cx} (hu : X.A.units + 100 < cLine) : PSet X (rSetN X.K) := by
  intro pins s σ H o i v ov iv u Q I ro ri rv h
  obtain ⟨F, a, kvs, k, d, q, rfl, le, own, hk, rk, rd, hz, hQ⟩ := h
  obtain rfl : ov = Value.ref a := ro
  obtain ⟨b, rfl⟩ := top_ref hk rk
  obtain rfl : iv = Value.ref b := ri
  have key := top_is I hk (Rp.mono le _ _ rk)
  have st : ∃ xs, s.heap.DictOfH (nestedKind X.prog X.w) a xs ∧ RpN X.K F kvs xs ∧ (a == sysModules) = false ∧ xs.length < sizeLine ∧ Mut (H a) := by
    rcases own with ⟨rfl, e⟩ | ⟨ob, xs, e, n, rn⟩
    · obtain ⟨z, hd, vs, rel, dd⟩ := dk_of I.hok e
      cases rel
      obtain ⟨ob, es, ep, h1, h2, h3, _, hp, _⟩ := dd
      have : es.toList = [] := by
        have := hp.length
        exact List.eq_nil_of_length_eq_zero (by simpa using this)
      exact ⟨[], ⟨ob, es, ep, h1, h2, h3, this, fun x hx => by simp at hx, List.nodup_nil⟩, by simp [RpN], hd, by rw [sizeLine_eq]; decide, by rw [e]; exact True.intro⟩
    · exact ⟨xs, dn_of I n (RpN.mono le _ _ rn), rn, n.sys, by rw [← rn.len, ← SZ_eq]; exact hz, by rw [e]; exact True.intro⟩
  obtain ⟨xs, dd, rn, hsys, hl, mu⟩ := st
  have rput := RpN.put rn hk rk rv rd
  refine wpAny_setItem_heap (hsz := Nat.le_of_lt hl) (room_n hu) key dd fun h' dd' hs => ?_
  have hh : ∀ x ∈ storedH xs q b u, ∀ w w' : World, x.1.hash w = x.1.hash w' := fun x hx => (RpN.keys I (RpN.mono le _ _ rput) x hx).2
  have nd : ((storedH xs q b u).map fun x => x.1).Nodup := by obtain ⟨_, _, _, _, _, _, _, _, n⟩ := dd'; exact n
  obtain ⟨ob, ent, ok⟩ := dn_new (H' := H) dd' hh
  have new : ObjOk X.prog X.w (upd H a (DN a ob)) h' a (DN a ob) := ⟨ok.1, ⟨ob, ok.1⟩, fun g1 g2 q k => k ob q⟩
  have I2 : Inv X pins σ (upd H a (DN a ob)) { s with heap := h', toks := s.toks + (nestedKind X.prog X.w).draws q } := d_write I mu hs ⟨ob, ok.1⟩ new
  exact ⟨_, I2, hQ ob (storedH xs q b u) ⟨.inl upd_same, ent, hsys, nd, Nat.le_trans store_len hl⟩ rput⟩
/-! ### {a: c, b: d} with keys that are tuples -/
def PrN (K : PySem.W.Frag) (F : Hp) : List (PyData × PyData) → List (V × V) → Prop
  | [], [] => True
  | (k, d) :: r, (x, y) :: t => (topKey k).isSome = true ∧ Rp K F k x ∧ Rp K F d y ∧ PrN K F r t
  | _, _ => False
def tDispN (K : PySem.W.Frag) (trs : List (TE × TE)) : TE := fun σ H Q => ∀ p, H p = none → tPairs trs σ (upd H p (.dK [])) fun ps H2 => H2 p = some (.dK []) ∧ ∃ (F : Hp) (prs : List (PyData × PyData)), Same F H2 ∧ PrN K F prs ps ∧ prs.length ≤ 15 ∧
  ∀ ob xs, DNk (upd H2 p (DN p ob)) p ob xs → RpN K F (dMergeN [] prs) xs → Q (.ref p) (upd H2 p (DN p ob))
theorem carries_n {X : Cx} {pins : List (Addr × Obj)} {s : Shared} {σ : SG} {H F : Hp} (I : Inv X pins σ H s) (le : Same F H) : ∀ {prs : List (PyData × PyData)} {ps : List (V × V)} {ws : List (Value × Value)}, PrN X.K F prs ps → VV ps ws →
    ∃ xs : List (NestedKey × Addr × Value), CarriesH (nestedKind X.prog X.w) s.heap ws xs ∧ RpN X.K F prs xs
  | [], [], _, _, r => by cases r; exact ⟨[], True.intro, by simp [RpN]⟩
  | [], _ :: _, _, h, _ => h.elim
  | _ :: _, [], _, h, _ => h.elim
  | (k, d) :: prs, (x, y) :: ps, _, h, r => by
    obtain ⟨h1, h2, h3, h4⟩ := h
    cases r with
    | @cons a b as bs r0 t =>
      obtain ⟨b1, b2⟩ := b
      obtain ⟨xs, c, rn⟩ := carries_n I le h4 t
      obtain ⟨q, hq⟩ := Option.isSome_iff_exists.mp h1
      obtain ⟨z, rfl⟩ := top_ref hq h2
      have e1 : b1 = Value.ref z := r0.1
      subst e1
      refine ⟨(q, z, b2) :: xs, ⟨rfl, rfl, top_is I hq (Rp.mono le _ _ h2), c⟩, ?_⟩
      unfold RpN
      exact ⟨q, z, b2, y, xs, rfl, hq, h2, r0.2, h3, rn⟩
theorem pe_dispN {X : Cx} {pos : Pos} {keys : List (Option Expr)} {values : List Expr} {trs : List (TE × TE)} (hu : X.A.units + 100 < cLine) (h : PPs X pos keys values trs) (hall : keys.all (·.isSome) = true) (hl : keys.length = values.length) (h0 : keys ≠ [])
    (h15 : keys.length ≤ 15) : PE X (.Dict keys values pos) (tDispN X.K trs) := by
  refine ⟨fun pins s σ H Q I q => ?_⟩
  have hn := I.hok.fresh (Nat.le_refl s.heap.objs.size)
  have I1 := I.laid (a := s.heap.objs.size) (o := .dK []) (h' := s.heap.push { cls := .type "dict", data := .dict #[] }) (t' := s.toks) (fun _ _ q => Heap.get?_push_of_some _ q) (Nat.le_refl _) (dk_empty s.heap I.big)
  have hlen := pairTrees_length keys values X.env pos hall hl
  have hne : pairTrees keys values X.env pos ≠ [] := fun he => by
    rw [he] at hlen
    exact h0 (List.length_eq_zero_iff.mp hlen.symm)
  rw [arm_eval_Dict, zip_pairTrees keys values X.env pos hall hl, dictDisplay_pairs _ hne (by omega)]
  refine wpAny_bind (wpAny_standAt (wpAny_bind ?_))
  refine wpAny_subDictH (knd := nestedKind X.prog X.w) (Q := fun d s' => wpAny (model X.prog X.w) X.A (pure (Value.ref d)) (EP X pins σ Q) X.xe s') (show X.A.units + 8 < cLine by omega) (by rw [hlen]; exact h15) ?_
  refine thn (h.run pins _ σ _ _ I1 (q _ hn)) fun ws s2 ⟨ps, H2, I2, rel, e, F, prs, le, pn, hp15, q2⟩ => ?_
  obtain ⟨rs, c, rn⟩ := carries_n I2 le pn rel
  obtain ⟨z, hd, vs0, r0, dd⟩ := dk_of I2.hok e
  cases r0
  have dd0 : s2.heap.DictOfH (nestedKind X.prog X.w) s.heap.objs.size [] := by
    obtain ⟨ob, es, ep, h1, h2, h3, _, hp, _⟩ := dd
    have : es.toList = [] := by
      have := hp.length
      exact List.eq_nil_of_length_eq_zero (by simpa using this)
    exact ⟨ob, es, ep, h1, h2, h3, this, fun x hx => by simp at hx, List.nodup_nil⟩
  refine ⟨rs, c, dd0, fun h' tk dd' hs => wpAny_pure ?_⟩
  have rm := RpN.merge rn (acc := []) (xacc := []) (by simp [RpN])
  have hh : ∀ x ∈ storedAllH [] rs, ∀ w w' : World, x.1.hash w = x.1.hash w' := fun x hx => (RpN.keys I2 (RpN.mono le _ _ rm) x hx).2
  have nd : ((storedAllH [] rs).map fun x => x.1).Nodup := by obtain ⟨_, _, _, _, _, _, _, _, n⟩ := dd'; exact n
  obtain ⟨ob, ent, ok⟩ := dn_new (H' := H2) dd' hh
  have new : ObjOk X.prog X.w (upd H2 s.heap.objs.size (DN s.heap.objs.size ob)) h' s.heap.objs.size (DN s.heap.objs.size ob) := ⟨ok.1, ⟨ob, ok.1⟩, fun g1 g2 q k => k ob q⟩
  have hz : (storedAllH [] rs).length ≤ sizeLine := by
    have h1 := storedAll_le rs
    have h2 := rn.len
    rw [sizeLine_eq]
    omega
  have I3 : Inv X pins σ (upd H2 s.heap.objs.size (DN s.heap.objs.size ob)) { s2 with heap := h', toks := tk } := d_write I2 (by rw [e]; exact True.intro) hs ⟨ob, ok.1⟩ new
  exact ⟨.ref s.heap.objs.size, _, I3, rfl, q2 ob _ ⟨.inl upd_same, ent, hd, nd, hz⟩ rm⟩
section
variable {C : Call} {K : PySem.W.Frag} {F H F1 H1 F2 H2 : Hp} {r r1 r2 : Env} {σ σ1 : SG}
def tKc (c : Cn) : TE := fun _ H Q => Q c.v H
theorem core_dn2 {a b : Ex} {c d : Cn} {Q : VK} (h : tE C K (.dn2 a b c d) σ H Q) : tDispN K [(tE C K a, tKc c), (tE C K b, tKc d)] σ H Q := by
  obtain ⟨F, r, w, r', wd, he, q⟩ := h
  simp only [evE] at he
  split at he
  · rename_i ka r1 h1
    split at he
    · rename_i kb r2 h2
      split at he
      · rename_i hk
        simp only [Option.some.injEq, Prod.mk.injEq] at he
        obtain ⟨rfl, rfl⟩ := he
        intro p hp
        have nO : ¬ Own r σ p := fun k => by
          obtain ⟨_, u, hu⟩ := wd.own k
          rw [hp] at hu; cases hu
        have hF : F p = none := wd.le.free hp
        have w0 : Wd K F (upd H p (.dK [])) r σ := by
          refine ⟨fun b u e => by rw [upd_ne (ne_of_none e hF)]; exact wd.le b u e, wd.len, fun i x h => ?_, wd.inj⟩
          have z := wd.sl i x h
          cases x with
          | no => trivial
          | fr d => exact z
          | ow d =>
            obtain ⟨a, e1, z⟩ := z
            have na : a ≠ p := fun e => nO ⟨i, d, h, e ▸ e1⟩
            exact ⟨a, e1, z.off na⟩
          | lk k => exact z.elim
          | ln k => exact z.elim
          | ex C => exact z
          | rz C => exact z.elim
        refine ⟨F, r, _, r1, w0, h1, fun v1 F1 H1 p1 => ?_⟩
        show tE C K b σ H1 _
        refine ⟨F1, r1, _, r2, p1.wd, h2, fun v2 F2 H2 p2 => ?_⟩
        have pe : Pe K F (upd H p (.dK [])) r σ r2 (.fr kb) v2 F2 H2 := ⟨p1.fr.trans p2.fr fun c k => .inl (p1.sub c k), p2.wd, fun c k => p1.sub c (p2.sub c k), p2.rp, p2.nw.back p1.fr p1.sub⟩
        have rk : Rp K F2 ka v1 := Rp.mono p2.fr.ff _ _ p1.rp
        have rk2 : Rp K F2 kb v2 := p2.rp
        have f := pe.fr
        have w2 := pe.wd
        have at2 : F2 p = none ∧ H2 p = some (.dK []) := by
          refine ⟨?_, f.hh p _ upd_same nO⟩
          cases k : F2 p with
          | none => rfl
          | some u =>
            rcases f.new p u k with y | ⟨_, y⟩
            · rw [hF] at y; cases y
            · rcases y with y | y
              · exact (nO y).elim
              · rw [upd_same] at y; cases y
        show H2 p = some (.dK []) ∧ _
        refine ⟨at2.2, F2, [(ka, c.d), (kb, d.d)], w2.le, ⟨hk.1, rk, c.rp, hk.2, rk2, d.rp, trivial⟩, by show 2 ≤ 15; decide, fun ob xs n z3 => ?_⟩
        have nO2 : ¬ Own r2 σ p := fun k => nO (pe.sub p k)
        have ne : dMergeN [] [(ka, c.d), (kb, d.d)] ≠ [] := by
          obtain ⟨qa, ea⟩ := Option.isSome_iff_exists.mp hk.1
          obtain ⟨qb, eb⟩ := Option.isSome_iff_exists.mp hk.2
          unfold dMergeN
          rw [ea]
          simp only
          exact merge_ne (by unfold dPutN; simp [dGetN])
        refine q (.ref p) F2 _ ⟨⟨f.ff, fun a o e => ?_, fun a o e n => ?_⟩, ?_, pe.sub, ⟨p, rfl, ⟨at2.1, .inr ⟨ob, xs, upd_same, ⟨n, ne⟩, z3⟩⟩, nO2⟩, fun a e => ?_⟩
        · rcases f.new a o e with y | ⟨y1, y2⟩
          · exact .inl y
          · refine .inr ⟨y1, y2.imp id fun y => ?_⟩
            by_cases hap : a = p
            · rw [hap]; exact hp
            · rw [upd_ne hap] at y; exact y
        · have nap : a ≠ p := fun z => by rw [z, hp] at e; cases e
          rw [upd_ne nap]
          exact f.hh a o (by rw [upd_ne nap]; exact e) n
        · refine ⟨fun b u e => by rw [upd_ne (ne_of_none e at2.1)]; exact w2.le b u e, w2.len, fun i x h => ?_, w2.inj⟩
          have z := w2.sl i x h
          cases x with
          | no => trivial
          | fr d => exact z
          | ow d =>
            obtain ⟨a, e1, z⟩ := z
            have na : a ≠ p := fun e => nO2 ⟨i, d, h, e ▸ e1⟩
            exact ⟨a, e1, z.off na⟩
          | lk k => exact z.elim
          | ln k => exact z.elim
          | ex C => exact z
          | rz C => exact z.elim
        · cases e
          exact .inl hp
      · cases he
    · cases he
  · cases he
end
end Bx

set_option Elab.async false
set_option linter.all false
set_option maxRecDepth 100000
set_option autoImplicit false
set_option maxHeartbeats 2000000
/-! list(zip(x, y)). -/
namespace Bx
open PySem PySem.Spec PyProof.Rows L2
section
variable {C : Call} {K : PySem.W.Frag} {F H F1 H1 F2 H2 : Hp} {r r1 r2 : Env} {σ σ1 : SG}
theorem RpA.ofAt : ∀ {ds : List PyData} {vs : List V}, ds.length = vs.length → (∀ (i : Nat) (d : PyData) (v : V), ds[i]? = some d → vs[i]? = some v → Rp K F d v) → RpA K F ds vs
  | [], [], _, _ => RpA.nil
  | [], _ :: _, h, _ => by simp at h
  | _ :: _, [], h, _ => by simp at h
  | d :: ds, v :: vs, h, q => RpA.cons (q 0 d v rfl rfl) (RpA.ofAt (by simpa using h) fun i d v a b => q (i + 1) d v (by simpa using a) (by simpa using b))
theorem tupsAt_at {xs ys : List V} : ∀ {ts : List Addr} {j i : Nat} {t : Addr} {x y : V}, ts.Pairwise (· < ·) → ts[i]? = some t → xs[j + i]? = some x → ys[j + i]? = some y → tupsAt xs ys ts j t = some (.tup [x, y])
  | [], _, i, _, _, _, _, h, _, _ => by simp at h
  | t0 :: ts, j, 0, t, x, y, _, h, hx, hy => by
    have e : t0 = t := by simpa using h
    subst e
    unfold tupsAt
    rw [if_pos rfl]
    rw [show j + 0 = j from rfl] at hx hy
    rw [hx, hy]
  | t0 :: ts, j, i + 1, t, x, y, hp, h, hx, hy => by
    have hp' := List.pairwise_cons.mp hp
    have h' : ts[i]? = some t := by simpa using h
    have hm : t ∈ ts := List.mem_of_getElem? h'
    have ne : ¬ t = t0 := fun e => by
      have := hp'.1 t hm
      rw [e] at this
      exact absurd this (Nat.lt_irrefl _)
    unfold tupsAt
    rw [if_neg ne]
    exact tupsAt_at hp'.2 h' (by rw [show j + 1 + i = j + (i + 1) by omega]; exact hx) (by rw [show j + 1 + i = j + (i + 1) by omega]; exact hy)
theorem core_lz {es : Exs} {Q : VK} (hl : es.len = 2) (h : tE C K (.lz es) σ H Q) : tLz K (tEs C K es) σ H Q := by
  obtain ⟨F, r, w, r', wd, he, q⟩ := h
  simp only [evE] at he
  split at he
  · rename_i ws r1 h1
    split at he
    · rename_i ds h2
      split at he
      · rename_i xs h3
        split at he
        · rename_i h4
          simp only [Option.some.injEq, Prod.mk.injEq] at he
          obtain ⟨rfl, rfl⟩ := he
          obtain ⟨h4, h5⟩ := h4
          refine ⟨F, r, ws, r1, wd, h1, fun vs F1 H1 p => ?_⟩
          unfold zipD at h3
          split at h3
          · rename_i d1 d2
            split at h3
            · rename_i as bs i1 i2
              cases h3
              obtain ⟨x, t, rfl, e1, h2⟩ := seeL_cons' h2
              obtain ⟨y, t, rfl, e2, h2⟩ := seeL_cons' h2
              obtain rfl := seeL_nil' h2
              obtain ⟨v, w, rfl, p1, p2⟩ := p.rp.two
              obtain ⟨k1, a, avs, rfl, ra, q1⟩ := seq_keep (hs := ownLk r1 [x, y]) p.wd p1 e1 i1 fun _ h => ownLk_cons h
              obtain ⟨k2, b, bvs, rfl, rb, q2⟩ := seq_keep (hs := ownLk r1 [x, y]) p.wd p2 e2 i2 fun _ h => ownLk_tail h
              have la := ra.len
              have lb := rb.len
              refine ⟨a, b, avs, bvs, k1, k2, rfl, q1 F1 H1 Fr.refl p.wd.le, q2 F1 H1 Fr.refl p.wd.le, ?_, fun ts pp hts hpw hfr hpp => ?_⟩
              · rw [← la, ← lb, ← SZ_eq]
                simpa [List.length_zip] using h5
              have le := p.wd.le
              have fr1 : ∀ {b : Addr} {o : HO}, tupsAt avs bvs ts 0 b = some o → H1 b = none ∧ pp < b := fun {b o} e => by
                have m := (tupsAt_mem e).1
                exact ⟨(hfr b m).2, (hfr b m).1⟩
              have old : ∀ {b : Addr} {o : HO}, H1 b = some o → tupsAt avs bvs ts 0 b = none := fun {b o} e => by
                cases z : tupsAt avs bvs ts 0 b with
                | none => rfl
                | some o' => rw [(fr1 z).1] at e; cases e
              have hpt : tupsAt avs bvs ts 0 pp = none := by
                cases z : tupsAt avs bvs ts 0 pp with
                | none => rfl
                | some o' => exact absurd (fr1 z).2 (Nat.lt_irrefl _)
              refine Res.of p.fr p.wd p.sub q (.ref pp) (fun c => match tupsAt avs bvs ts 0 c with | some o => some o | none => F1 c) (lzHp H1 avs bvs ts pp) ⟨fun c o e => ?_, fun c o e => ?_, fun c o e _ => ?_⟩ (fun c o e => ?_) ⟨pp, rfl, ⟨?_, ts.map V.ref, ?_, ?_⟩, hpp⟩
              · show (match tupsAt avs bvs ts 0 c with | some o => some o | none => F1 c) = some o
                rw [old (le c o e)]
                exact e
              · have e : (match tupsAt avs bvs ts 0 c with | some o => some o | none => F1 c) = some o := e
                cases z : tupsAt avs bvs ts 0 c with
                | none => rw [z] at e; exact .inl e
                | some o' => exact .inr ⟨le.free (fr1 z).1, .inr (fr1 z).1⟩
              · unfold lzHp
                rw [if_neg (fun z => by rw [z, hpp] at e; cases e), old e]
                exact e
              · have e : (match tupsAt avs bvs ts 0 c with | some o => some o | none => F1 c) = some o := e
                unfold lzHp
                rw [if_neg (fun z => by rw [z, hpt] at e; have := le _ _ e; rw [hpp] at this; cases this)]
                cases z : tupsAt avs bvs ts 0 c with
                | none => rw [z] at e; exact le c o e
                | some o' => rw [z] at e; exact e
              · show (match tupsAt avs bvs ts 0 pp with | some o => some o | none => F1 pp) = none
                rw [hpt]
                exact le.free hpp
              · unfold lzHp
                rw [if_pos rfl]
              · have s1 : Same F1 (fun c => match tupsAt avs bvs ts 0 c with | some o => some o | none => F1 c) := fun c o e => by
                  show (match tupsAt avs bvs ts 0 c with | some o => some o | none => F1 c) = some o
                  rw [old (le c o e)]
                  exact e
                refine RpA.ofAt (by rw [List.length_map, List.length_map, List.length_zip, hts, la, lb]) fun i d v hd hv => ?_
                obtain ⟨x', y', hx, hy, rfl⟩ := zip_at hd
                obtain ⟨v1, hv1, rv1⟩ := ra.at hx
                obtain ⟨w1, hw1, rw1⟩ := rb.at hy
                rw [List.getElem?_map] at hv
                cases ht : ts[i]? with
                | none => rw [ht] at hv; cases hv
                | some t =>
                  rw [ht] at hv
                  cases hv
                  have z := tupsAt_at (j := 0) hpw ht (by rw [Nat.zero_add]; exact hv1) (by rw [Nat.zero_add]; exact hw1)
                  refine ⟨t, [v1, w1], rfl, .inl (.inl ?_), RpA.two (Rp.mono s1 _ _ rv1) (Rp.mono s1 _ _ rw1)⟩
                  show (match tupsAt avs bvs ts 0 t with | some o => some o | none => F1 t) = _
                  rw [z]
            · cases h3
          · simp at h4
          · cases h3
        · cases he
      · cases he
    · cases he
  · cases he
/-! ### list(range(..)) -/
theorem rpA_ints {f : Nat → Int} : ∀ l : List Nat, RpA K F (l.map fun i => PyData.int (f i)) (l.map fun i => V.int (f i))
  | [] => RpA.nil
  | i :: l => RpA.cons rfl (rpA_ints l)
theorem core_lr1 {a : Ex} {Q : VK} (h : tE C K (.lr1 a) σ H Q) : tLstRg (tRg1 (tE C K a)) σ H Q := by
  obtain ⟨F, r, w, r', wd, he, q⟩ := h
  simp only [evE] at he
  split at he
  · rename_i d r1 h1
    split at he
    · rename_i xs h3
      split at he
      · rename_i hz
        simp only [Option.some.injEq, Prod.mk.injEq] at he
        obtain ⟨rfl, rfl⟩ := he
        refine ⟨F, r, _, r1, wd, h1, fun v F1 H1 p => ?_⟩
        unfold rangeD at h3
        split at h3
        · rename_i j hj0
          split at h3
          · rename_i hj
            cases h3
            obtain rfl : d = .int j := by simpa using hj0
            have hv : v = .int j := p.rp
            subst hv
            rw [List.length_map, List.length_range] at hz
            refine ⟨j, rfl, ⟨by decide, by decide, hj.1, hj.2, by rw [Int.sub_zero]; exact hz⟩, fun c hc => ?_⟩
            refine (Res.of p.fr p.wd p.sub q).newL p.wd.le ?_ hc
            have := rpA_ints (K := K) (F := F1) (f := fun i => (i : Int)) (List.range j.toNat)
            unfold rgV
            rw [Int.sub_zero]
            simpa using this
          · cases h3
        · rename_i e
          simp at e
        · cases h3
      · cases he
    · cases he
  · cases he
theorem core_lr2 {a b : Ex} {Q : VK} (h : tE C K (.lr2 a b) σ H Q) : tLstRg (tRg2 (tE C K a) (tE C K b)) σ H Q := by
  obtain ⟨F, r, w, r', wd, he, q⟩ := h
  simp only [evE] at he
  split at he
  · rename_i d r1 h1
    split at he
    · rename_i e r2 h2
      split at he
      · rename_i xs h3
        split at he
        · rename_i hz
          simp only [Option.some.injEq, Prod.mk.injEq] at he
          obtain ⟨rfl, rfl⟩ := he
          unfold rangeD at h3
          split at h3
          · rename_i e
            simp at e
          · rename_i i j hj0
            split at h3
            · rename_i hj
              cases h3
              obtain ⟨rfl, rfl⟩ : d = .int i ∧ e = .int j := by simpa using hj0
              rw [List.length_map, List.length_range] at hz
              refine tE_two wd h1 h2 fun v u F2 H2 f w2 sub p1 p2 _ _ => ?_
              have hv : v = .int i := p1
              have hu : u = .int j := p2
              subst hv hu
              refine ⟨i, j, rfl, rfl, ⟨hj.1, hj.2.1, hj.2.2.1, hj.2.2.2, hz⟩, fun c hc => ?_⟩
              exact (Res.of f w2 sub q).newL w2.le (rpA_ints (f := fun k => i + (k : Int)) _) hc
            · cases h3
          · cases h3
        · cases he
      · cases he
    · cases he
  · cases he
/-! ### caught exceptions -/
theorem core_xv {i : Nat} {Q : VK} (h : tE C K (.xv i) σ H Q) : tVar i σ H Q := by
  obtain ⟨F, r, w, r', wd, he, q⟩ := h
  simp only [evE] at he
  split at he
  · rename_i c hr
    simp only [Option.some.injEq, Prod.mk.injEq] at he
    obtain ⟨rfl, rfl⟩ := he
    obtain ⟨a, e1, z⟩ := wd.sl i _ hr
    exact ⟨.ref a, e1, q _ F H ⟨Fr.refl, wd, fun _ k => k, ⟨a, rfl, z⟩, trivial⟩⟩
  · cases he
theorem rp_non {d : PyData} {v : V} (h : Rp K F d v) (n : d ≠ .none) : v ≠ .non := by
  cases d with
  | none => exact absurd rfl n
  | bool b => have h : v = .bl b := h; rw [h]; nofun
  | int b => have h : v = .int b := h; rw [h]; nofun
  | str b => have h : v = .str b := h; rw [h]; nofun
  | list xs => unfold Rp at h; obtain ⟨a, vs, rfl, _⟩ := h; nofun
  | tuple xs => unfold Rp at h; obtain ⟨a, vs, rfl, _⟩ := h; nofun
  | dict xs => unfold Rp at h; obtain ⟨a, rfl, _⟩ := h; nofun
theorem core_xnn {i : Nat} {Q : VK} (h : tE C K (.xnn i) σ H Q) : tOp (fun x y H Q => y = .non ∧ Q (.bl (!decide (x = .non))) H) (tVar i) (fun _ H Q => Q (Cn.none).v H) σ H Q := by
  obtain ⟨F, r, w, r', wd, he, q⟩ := h
  simp only [evE] at he
  split at he
  · rename_i c hr
    simp only [Option.some.injEq, Prod.mk.injEq] at he
    obtain ⟨rfl, rfl⟩ := he
    obtain ⟨a, e1, z⟩ := wd.sl i _ hr
    exact ⟨.ref a, e1, rfl, q _ F H ⟨Fr.refl, wd, fun _ k => k, rfl, trivial⟩⟩
  · rename_i hr
    simp only [Option.some.injEq, Prod.mk.injEq] at he
    obtain ⟨rfl, rfl⟩ := he
    obtain ⟨v, e1, z⟩ := wd.sl i _ hr
    have z : v = .non := z
    subst z
    exact ⟨.non, e1, rfl, q _ F H ⟨Fr.refl, wd, fun _ k => k, rfl, trivial⟩⟩
  · rename_i d hd hr
    simp only [Option.some.injEq, Prod.mk.injEq] at he
    obtain ⟨rfl, rfl⟩ := he
    obtain ⟨v, e1, z⟩ := wd.sl i _ hr
    have n := rp_non z fun e => hd (by rw [e])
    refine ⟨v, e1, rfl, ?_⟩
    rw [decide_eq_false n]
    exact q _ F H ⟨Fr.refl, wd, fun _ k => k, rfl, trivial⟩
  · cases he
end
end Bx

set_option Elab.async false
set_option linter.all false
set_option maxRecDepth 100000
set_option autoImplicit false
set_option maxHeartbeats 3200000
/-! sum(x, []), x a list of lists. -/
namespace Bx
open PySem PySem.Spec PyProof.Rows L2
section
variable {P : Program} {w : World} {A : Around} {R : Result → Shared → Prop} {I L S : Addr} {items : Array Value} {cs : Nat → List Value} {h0 : Addr → Option Obj} {t0 : Addr}
/-- the lists put one behind the other, so many of them -/
def preL (cs : Nat → List Value) (i : Nat) : List Value := (List.range i).flatMap cs
theorem preL_succ (i : Nat) : preL cs (i + 1) = preL cs i ++ cs i := by
  unfold preL
  rw [List.range_succ, List.flatMap_append]
  simp
abbrev lstO (xs : List Value) (n : Nat) : Obj := { cls := .type "list", dict := none, data := .seq xs.toArray n }
theorem sum_loop_lists (W : WalksS P w A.in1 I [I, L] [I] (fun a b => b = a) items.size (fun i v => items[i]? = some v) (fun i s' => s'.heap.IsListIter I L i ∧ s'.heap.IsList L items))
    (hv : ∀ i v, items[i]? = some v → ∃ d o m, v = .ref d ∧ h0 d = some o ∧ o.cls = .type "list" ∧ o.data = .seq (cs i).toArray m) (hz : (preL cs items.size).length ≤ sizeLine) (hI : ∀ b o, h0 b = some o → b ≠ I ∧ b ≠ S) (hSI : S ≠ I) (hSL : S ≠ L) :
    ∀ (k i : Nat) (s : Shared) (t : Addr) (c m : Nat), items.size - i = k → i ≤ items.size → (s.heap.IsListIter I L i ∧ s.heap.IsList L items) → (∀ b o, h0 b = some o → s.heap.get? b = some o) →
    s.heap.get? S = some { cls := .type "list", dict := none, data := .seq #[.ref t] c, slots := #[] } → s.heap.get? t = some (lstO (preL cs i) m) → t ≠ I → t ≠ S → (I ≤ t ∨ t = t0) →
    (∀ s' t' m', (∀ b o, h0 b = some o → s'.heap.get? b = some o) → s'.gens = s.gens → s'.drawn = s.drawn → s'.os = s.os → s'.heap.get? t' = some (lstO (preL cs items.size) m') → (I ≤ t' ∨ t' = t0) → R (.ok (.ret (.ref t'))) s') →
    codeAny (model P w) A (.builtin "sum.loop" ⟨[.ref I, .ref S, rawInt 2, rawInt 0], []⟩) R s := by
  intro k
  induction k with
  | zero =>
    intro i s t c m hk hi hst h0s hS ht tI tS tn hR
    obtain rfl : i = items.size := by omega
    refine codeAny_builtin F.entry_sum_loop ?_
    rw [Around.under_plainId F.plain_sum_loop _]
    refine wpAny_bind (m := seqItems? (.ref S)) (wpAny_seqItems hS rfl (wpAny_bind (m := tryCatch (pyNext (.ref I)) _) (wpAny_tryCatch (W.done s _ _ hst fun s' hm => wpAny_pure ?_))))
    have up : ∀ b o, b ≠ I → s.heap.get? b = some o → s'.heap.get? b = some o := fun b o hb e => hm.heap b o (by simpa using hb) e
    exact hR s' t m (fun b o e => up b o (hI b o e).1 (h0s b o e)) hm.gens hm.drawn hm.os (up _ _ tI ht) tn
  | succ k ih =>
    intro i s t c m hk hi hst h0s hS ht tI tS tn hR
    have lt : i < items.size := by omega
    refine codeAny_builtin F.entry_sum_loop ?_
    rw [Around.under_plainId F.plain_sum_loop _]
    refine wpAny_bind (m := seqItems? (.ref S)) (wpAny_seqItems hS rfl (wpAny_bind (m := tryCatch (pyNext (.ref I)) _) (wpAny_tryCatch (W.item i s _ _ lt hst fun v s' hP hst' hm => ?_))))
    obtain ⟨d, od, md, rfl, hd, cd, dd⟩ := hv i v hP
    obtain ⟨c2, d2, da2, s2⟩ := od
    simp only at cd dd
    subst cd dd
    have up : ∀ b o, b ≠ I → s.heap.get? b = some o → s'.heap.get? b = some o := fun b o hb e => hm.heap b o (by simpa using hb) e
    have nd : d ≠ S := (hI d _ hd).2
    have d1 := up d _ (hI d _ hd).1 (h0s d _ hd)
    have t1 := up t _ tI ht
    have S1 := up S _ hSI hS
    have len1 : (preL cs i).length + (cs i).length ≤ sizeLine := by
      have e1 : (preL cs (i + 1)).length ≤ (preL cs items.size).length := by
        have : ∀ n, i + 1 ≤ n → (preL cs (i + 1)).length ≤ (preL cs n).length := fun n hn => by
          induction n with
          | zero => omega
          | succ n ih2 =>
            by_cases e : i + 1 = n + 1
            · rw [e]; exact Nat.le_refl _
            · rw [preL_succ n, List.length_append]
              have := ih2 (by omega)
              omega
        exact this _ lt
      rw [preL_succ, List.length_append] at e1
      omega
    show wpAny _ A.in1 ((holding [Value.ref d] (binaryOp .Add (.ref t) (.ref d))).attempt >>= _) _ _ _
    refine wpAny_bind (wpAny_attempt (wpAny_holding (PySem.concat_meets ⟨_, t1, rfl⟩ ⟨_, d1, rfl⟩ noFill_list_add seq_list_add PySem.F.slot_list_add PySem.F.entry_list_add (PySem.F.args_list_add_2 _ _) (list_addW t d (preL cs i).toArray (cs i).toArray m md none d2 #[] s2 (by rw [List.size_toArray, List.size_toArray]; exact len1)) ⟨t1, d1, ?_⟩)))
    rw [show (preL cs i).toArray ++ (cs i).toArray = (preL cs (i + 1)).toArray by rw [preL_succ]; simp]
    have nS : S < s'.heap.objs.size := Heap.lt_size S1
    generalize hN : s'.heap.objs.size = N at nS ⊢
    have S2 : (s'.heap.push { cls := .type "list", data := .seq (preL cs (i + 1)).toArray }).get? S = some { cls := .type "list", dict := none, data := .seq #[.ref t] c, slots := #[] } := Heap.get?_push_of_some _ S1
    have n2 : (s'.heap.push { cls := .type "list", data := .seq (preL cs (i + 1)).toArray }).get? N = some (lstO (preL cs (i + 1)) 0) := by rw [← hN]; exact Heap.get?_push_size _ rfl
    refine wpAny_bind (m := updateSeq S (fun _ => #[.ref N])) (wpAny_updateSeq S2 rfl (wpAny_bind (wpAny_letGo ?_)))
    have S3 := Heap.get?_update_self (Obj.mapSeq fun _ => #[Value.ref N]) S2 rfl
    have old : ∀ b o, b ≠ S → s'.heap.get? b = some o → (((s'.heap.push { cls := .type "list", data := .seq (preL cs (i + 1)).toArray }).update S (Obj.mapSeq fun _ => #[Value.ref N])).update S (Obj.mapSeq fun _ => #[Value.ref N])).get? b = some o := fun b o hb e =>
      (Heap.get?_update_other _ _ (Ne.symm hb)).trans ((Heap.get?_update_other _ _ (Ne.symm hb)).trans (Heap.get?_push_of_some _ e))
    refine wpAny_bind (m := updateSeq S (fun _ => #[.ref N])) (wpAny_updateSeq S3 rfl (wpAny_pure ⟨plainId_quiet F.plain_sum_loop _, ih (i + 1) _ N _ 0 (by omega) lt ?_ (fun b o e => old b o (hI b o e).2 (up b o (hI b o e).1 (h0s b o e))) (Heap.get?_update_self _ S3 rfl) ?_ ?_ ?_ ?_ fun s'' t'' m'' k1 k2 k3 k4 k5 k6 => ?_⟩))
    · refine W.frame (i + 1) s' _ _ hst' (Nat.le_refl _) fun b hb o e => old b o ?_ e
      simp only [List.mem_cons, List.not_mem_nil, or_false] at hb
      rcases hb with rfl | rfl
      · exact Ne.symm hSI
      · exact Ne.symm hSL
    · exact (Heap.get?_update_other _ _ (Nat.ne_of_lt nS)).trans ((Heap.get?_update_other _ _ (Nat.ne_of_lt nS)).trans n2)
    · obtain ⟨⟨o, ho, _⟩, _⟩ := hst'
      have := Heap.lt_size ho
      rw [hN] at this
      exact Nat.ne_of_gt this
    · exact Nat.ne_of_gt nS
    · obtain ⟨⟨o, ho, _⟩, _⟩ := hst'
      have := Heap.lt_size ho
      rw [hN] at this
      exact .inl (Nat.le_of_lt this)
    · exact hR s'' t'' m'' k1 (k2.trans hm.gens) (k3.trans hm.drawn) (k4.trans hm.os) k5 k6
end
theorem args_sum2 (a b : Value) : argsOk "sum" ⟨[a, b], []⟩ := by unfold argsOk; kernel_rfl
section
variable {P : Program} {w : World} {A : Around} {E : Value → Shared → Prop} {s : Shared} {Q : Value → Shared → Prop} {L t : Addr} {items : Array Value} {cs : Nat → List Value}
theorem sum_lists {m : Nat} (hh : A.handled = none) (hl : s.heap.IsList L items) (ht : s.heap.get? t = some (lstO [] m)) (hv : ∀ i v, items[i]? = some v → ∃ d o m, v = .ref d ∧ s.heap.get? d = some o ∧ o.cls = .type "list" ∧ o.data = .seq (cs i).toArray m) (hz : (preL cs items.size).length ≤ sizeLine)
    (hQ : ∀ h' tk t' m', (∀ b o, s.heap.get? b = some o → h'.get? b = some o) → h'.get? t' = some (lstO (preL cs items.size) m') → (t' = t ∨ s.heap.objs.size ≤ t') → Q (.ref t') { s with heap := h', toks := tk }) :
    wpAny (model P w) A (call (.builtin "sum") [.ref L, .ref t]) Q E s := by
  refine call_function_tree F.kind_sum F.plain_sum F.entry_sum (args_sum2 _ _) ?_
  unfold Builtin.«sum»
  simp only [List.length_cons, List.length_nil]
  rw [if_neg (by decide)]
  refine wpAny_bind (wpAny_of_eq (show Builtin.Builtins.bindParams "sum" ["start"] 0 ⟨[Value.ref t], []⟩ = pure [some (Value.ref t)] from rfl) ?_)
  refine wpAny_bind (PySem.W.iter_listW (A := A.in1) hh hl fun s₂ e W st hfp hw hk => ?_)
  have T : s₂.TypeIs (.ref t) "list" := ⟨_, hk _ _ ht, rfl⟩
  refine wpAny_bind (wpAny_pure ?_)
  simp only [List.forIn_cons, List.forIn_nil]
  refine wpAny_bind (wpAny_bind (wpAny_bind (wpAny_isInstance (b := false) T F.sub_list_str ?_)))
  simp only [Bool.false_eq_true, if_false]
  refine wpAny_pure (wpAny_bind (wpAny_bind (wpAny_isInstance (b := false) T F.sub_list_bytes ?_)))
  simp only [Bool.false_eq_true, if_false]
  refine wpAny_pure (wpAny_bind (wpAny_bind (wpAny_isInstance (b := false) T F.sub_list_bytearray ?_)))
  simp only [Bool.false_eq_true, if_false]
  refine wpAny_pure (wpAny_pure (wpAny_bind (wpAny_newObj_type ?_)))
  have e2 : s₂.heap.objs.size = s.heap.objs.size + 1 := by rw [e]; exact size_push' _ _
  have lt : ∀ b o, s.heap.get? b = some o → b ≠ s.heap.objs.size ∧ b ≠ s₂.heap.objs.size := fun b o q => by
    have := Heap.lt_size q
    rw [e2]
    exact ⟨Nat.ne_of_lt this, Nat.ne_of_lt (Nat.lt_succ_of_lt this)⟩
  have ltL : L ≠ s₂.heap.objs.size := by
    obtain ⟨o, q, _⟩ := hl
    exact (lt L o q).2
  have frame : ∀ b o, s₂.heap.get? b = some o → (s₂.heap.push { cls := .type "list", data := .seq [Value.ref t].toArray }).get? b = some o := fun b o q => Heap.get?_push_of_some _ q
  refine wpAny_pure ⟨plainId_quiet F.plain_sum_loop _, sum_loop_lists (h0 := fun b => s.heap.get? b) (t0 := t) (S := s₂.heap.objs.size) (t := t) (c := 0) (m := m) W hv hz lt ?_ (Ne.symm ltL) items.size 0 _ rfl (Nat.zero_le _) ?_ (fun b o q => frame b o (hk b o q)) (Heap.get?_push_size _ rfl) (frame _ _ (hk _ _ ht)) (lt t _ ht).1 (lt t _ ht).2 (.inr rfl) fun s' t' m' k1 k2 k3 k4 k5 k6 => ?_⟩
  · rw [e2]; exact Nat.succ_ne_self _
  · exact W.frame 0 s₂ _ _ st (Nat.le_refl _) fun b _ o q => frame b o q
  · obtain ⟨h', g2, d', tk', os'⟩ := s'
    obtain rfl : g2 = s.gens := k2.trans (by rw [e])
    obtain rfl : d' = s.drawn := k3.trans (by rw [e])
    obtain rfl : os' = s.os := k4.trans (by rw [e])
    exact hQ h' tk' t' m' k1 k5 k6.symm
end
end Bx

set_option Elab.async false
set_option linter.all false
set_option maxRecDepth 100000
set_option autoImplicit false
set_option maxHeartbeats 2000000
/-! sorted(set(x)), sum(x, []): the rules. -/
namespace Bx
open PySem PySem.Spec PyProof.Rows L2
/-! ### numbers sorted, each once -/
theorem onceI_mem (x : Int) : ∀ (l : List Int) (y : Int), y ∈ onceI x l ↔ y = x ∨ y ∈ l
  | [], y => by simp [onceI]
  | z :: l, y => by
    unfold onceI
    split
    · simp
    · split
      · rename_i h; subst h; simp
      · rw [List.mem_cons, onceI_mem x l y, List.mem_cons]
        constructor
        · rintro (h | h | h)
          · exact .inr (.inl h)
          · exact .inl h
          · exact .inr (.inr h)
        · rintro (h | h | h)
          · exact .inr (.inl h)
          · exact .inl h
          · exact .inr (.inr h)
theorem onceI_lt (x : Int) : ∀ {l : List Int}, l.Pairwise (· < ·) → (onceI x l).Pairwise (· < ·)
  | [], _ => List.pairwise_singleton _ _
  | z :: l, h => by
    obtain ⟨h1, h2⟩ := List.pairwise_cons.mp h
    unfold onceI
    split
    · rename_i c
      refine List.pairwise_cons.mpr ⟨fun y hy => ?_, h⟩
      rcases List.mem_cons.mp hy with rfl | hy
      · exact c
      · have := h1 y hy; omega
    · split
      · exact h
      · refine List.pairwise_cons.mpr ⟨fun y hy => ?_, onceI_lt x h2⟩
        rcases (onceI_mem x l y).mp hy with rfl | hy
        · omega
        · exact h1 y hy
theorem ssL_mem : ∀ (ns : List Int) (y : Int), y ∈ ssL ns ↔ y ∈ ns
  | [], y => Iff.rfl
  | x :: ns, y => by
    show y ∈ onceI x (ssL ns) ↔ _
    rw [onceI_mem, ssL_mem ns y, List.mem_cons]
theorem ssL_lt : ∀ ns : List Int, (ssL ns).Pairwise (· < ·)
  | [] => List.Pairwise.nil
  | x :: ns => onceI_lt x (ssL_lt ns)
theorem lt_ext : ∀ {l m : List Int}, l.Pairwise (· < ·) → m.Pairwise (· < ·) → (∀ x, x ∈ l ↔ x ∈ m) → l = m
  | [], [], _, _, _ => rfl
  | [], y :: m, _, _, h => by have := (h y).mpr List.mem_cons_self; simp at this
  | x :: l, [], _, _, h => by have := (h x).mp List.mem_cons_self; simp at this
  | x :: l, y :: m, h1, h2, h => by
    obtain ⟨a1, a2⟩ := List.pairwise_cons.mp h1
    obtain ⟨b1, b2⟩ := List.pairwise_cons.mp h2
    have e : x = y := by
      rcases List.mem_cons.mp ((h x).mp List.mem_cons_self) with e | e
      · exact e
      · rcases List.mem_cons.mp ((h y).mpr List.mem_cons_self) with f | f
        · exact f.symm
        · have := a1 y f; have := b1 x e; omega
    subst e
    rw [lt_ext a2 b2 fun z => ⟨fun hz => ?_, fun hz => ?_⟩]
    · rcases List.mem_cons.mp ((h z).mp (List.mem_cons_of_mem _ hz)) with e | e
      · subst e; have := a1 z hz; omega
      · exact e
    · rcases List.mem_cons.mp ((h z).mpr (List.mem_cons_of_mem _ hz)) with e | e
      · subst e; have := b1 z hz; omega
      · exact e
section
variable {X : Cx}
/-! ### the calls -/
def rSetI (K : PySem.W.Frag) (w : World) : List V → Hp → VK → Prop := fun vs H Q => ∃ (a : Addr) (ns : List Int), vs = [V.ref a] ∧ (SqL K H a (ns.map V.int) ∨ SqT K H a (ns.map V.int)) ∧ ns.length < 4000 ∧ ∀ p n, H p = none → n ≤ ns.length → Q (.ref p) (upd H p (SetO w p (fun j => decide (j ∈ ns)) n))
theorem call_setI (hc : X.calm = true) : CallR X (.type "set") (rSetI X.K X.w) := by
  intro pins s σ H vs us Q I r h
  obtain ⟨a, ns, rfl, hs, hz, q⟩ := h
  rw [Vals.ref1 r]
  have fin : ∀ (h' : Heap) (tk c : Nat), SetR X.w h' s.heap.objs.size (fun j => decide (j ∈ ns)) c → c ≤ ns.length → (∀ b o, s.heap.get? b = some o → h'.get? b = some o) → EP X pins σ Q (.ref s.heap.objs.size) { s with heap := h', toks := tk } := fun h' tk c R hc k =>
    ⟨.ref s.heap.objs.size, _, I.laid (t' := tk) k (Nat.le_refl _) (setO_new R), rfl, q _ c (I.hok.fresh (Nat.le_refl _)) hc⟩
  have hb : ns.length + 1 < scanBound := by show _ < 4096; omega
  rcases hs with hs | hs
  · obtain ⟨its, rv, pl, _⟩ := I.list hs
    exact set_of_list ns (I.ok.hd hc) pl.isList (by simpa using rv.ints) hb fin
  · obtain ⟨its, rv, pl, _⟩ := I.tuple hs
    exact L2.call_set_tupI ns (I.ok.hd hc) pl (by simpa using rv.ints) hb fin
def rSortedSetN (w : World) : List V → Hp → VK → Prop := fun vs H Q => ∃ (a : Addr) (S : Int → Bool) (n : Nat), vs = [V.ref a] ∧ H a = some (SetO w a S n) ∧ n ≤ sizeLine ∧
  ∀ (ns : List Int) (p : Addr), ns.Pairwise (· < ·) → (∀ k : Int, k ∈ ns ↔ S k = true) → ns.length = n → H p = none → Q (.ref p) (upd H p (.lst (ns.map V.int)))
theorem call_sortedSetN (hc : X.calm = true) : CallR X (.builtin "sorted") (rSortedSetN X.w) := by
  intro pins s σ H vs us Q I r h
  obtain ⟨a, S, n, rfl, ha, hz, q⟩ := h
  rw [Vals.ref1 r]
  refine sorted_setN (setO_get I ha) (I.ok.hd hc) hz fun s' p out c ns k g o hp hg hi hs hm hl => ?_
  have hlen : (ns.map V.int).length ≤ sizeLine := by rw [List.length_map, hl]; exact hz
  have hn : H p = none := I.hok.fresh hp
  have J : Inv X pins σ (upd H p (.lst (ns.map V.int))) { s with heap := s'.heap, gens := s'.gens, drawn := s'.drawn, toks := s'.toks } :=
    I.call (ch := []) (Un.laid k hp hn) (I.hok.laid k hp ⟨hlen, out.toList, c, vals_of_ints hi, hg⟩) (by rw [g]; exact I.bare) (fun _ z => nomatch z)
  obtain ⟨h1, g1, d1, t1, o1⟩ := s'
  obtain ⟨h0, g0, d0, t0, o0⟩ := s
  cases o
  exact ⟨.ref p, _, J, rfl, q ns p hs hm hl hn⟩
theorem lists_at {K : PySem.W.Frag} {F : Hp} : ∀ {ds : List PyData} {vs : List V} {ls : List (List PyData)}, RpA K F ds vs → listsOf ds = some ls → ∃ as : List Addr, ∃ ws : List (List V), vs = as.map V.ref ∧ ws.length = as.length ∧ (∀ (i : Nat) (a : Addr) (w : List V), as[i]? = some a → ws[i]? = some w → SqL K F a w) ∧ RpA K F ls.flatten ws.flatten
  | [], vs, ls, q, e => by
    unfold RpA at q
    subst q
    cases e
    exact ⟨[], [], rfl, rfl, fun i a w h => by simp at h, RpA.nil⟩
  | d :: ds, vs, ls, q, e => by
    unfold RpA at q
    obtain ⟨v, r, rfl, a, b⟩ := q
    cases d with
    | list xs =>
      simp only [listsOf] at e
      cases h : listsOf ds with
      | none => rw [h] at e; cases e
      | some l =>
        rw [h] at e
        cases e
        obtain ⟨as, ws, rfl, h1, h2, h3⟩ := lists_at b h
        obtain ⟨p, vs, rfl, sq, rp⟩ := (show ∃ a vs, v = .ref a ∧ SqL K F a vs ∧ RpA K F xs vs from a)
        refine ⟨p :: as, vs :: ws, rfl, by simp [h1], fun i a w g1 g2 => ?_, ?_⟩
        · cases i with
          | zero => cases g1; cases g2; exact sq
          | succ i => exact h2 i a w (by simpa using g1) (by simpa using g2)
        · rw [List.flatten_cons, List.flatten_cons]
          exact RpA.app rp h3
    | _ => simp [listsOf] at e
def rSum2 (K : PySem.W.Frag) : List V → Hp → VK → Prop := fun vs H Q => ∃ (F : Hp) (v : V) (t : Addr) (ds : List PyData) (ls : List (List PyData)), vs = [v, .ref t] ∧ Same F H ∧ Vw K F H (.list ds) v ∧ H t = some (.lst []) ∧ listsOf ds = some ls ∧ ls.flatten.length ≤ SZ ∧
  (∀ ws p, RpA K F ls.flatten ws → H p = none → Q (.ref p) (upd H p (.lst ws))) ∧ (ls.flatten = [] → Q (.ref t) H)
theorem vals_ext : ∀ {as : List V} {us us' : List Value}, Vals as us → us = us' → Vals as us' := fun h e => e ▸ h
theorem call_sum2 (hc : X.calm = true) : CallR X (.builtin "sum") (rSum2 X.K) := by
  intro pins s σ H vs us Q I r h
  obtain ⟨F, v, t, ds, ls, rfl, le, hv, ht, hl, hz, q1, q2⟩ := h
  obtain ⟨a, vs, rfl, sa, ra⟩ := hv.lst le
  cases r with
  | cons r1 r2 =>
    cases r2 with
    | cons r2 r3 =>
      cases r3
      cases r1
      cases r2
      obtain ⟨its, rv, pl, _⟩ := I.list sa
      obtain ⟨z0, its0, n0, rt, e0⟩ := I.hok t _ ht
      cases rt
      obtain ⟨as, ws, rfl, wl, sq, rf⟩ := lists_at ra hl
      have eits : its = as.map Value.ref := by
        rename_i hzz
        clear hzz pl sa ra sq wl hl
        induction as generalizing its with
        | nil => cases rv; rfl
        | cons b as ih =>
          cases rv with
          | cons x y => cases x; rw [ih _ y]; rfl
      subst eits
      -- the values of the lists
      have pick : ∀ i : Nat, ∃ us : List Value, ∀ (b : Addr) (w : List V), as[i]? = some b → ws[i]? = some w → Vals w us ∧ PlainL s.heap b us.toArray := fun i => by
        cases hb : as[i]? with
        | none => exact ⟨[], fun b w h => by cases h⟩
        | some b =>
          cases hw : ws[i]? with
          | none => exact ⟨[], fun b w _ h => by cases h⟩
          | some w =>
            obtain ⟨us, c1, c2, _⟩ := I.list (SqL.mono le (sq i b w hb hw))
            exact ⟨us, fun b' w' h1 h2 => by cases h1; cases h2; exact ⟨c1, c2⟩⟩
      let cs : Nat → List Value := fun i => Classical.choose (pick i)
      have hcs : ∀ i (b : Addr) (w : List V), as[i]? = some b → ws[i]? = some w → Vals w (cs i) ∧ PlainL s.heap b (cs i).toArray := fun i => Classical.choose_spec (pick i)
      have wat : ∀ i, i < as.length → ∃ w, ws[i]? = some w := fun i h => ⟨_, List.getElem?_eq_getElem (by omega)⟩
      have pre : ∀ n, n ≤ as.length → Vals ((ws.take n).flatten) (preL cs n) := fun n hn => by
        induction n with
        | zero => exact Paired.nil
        | succ n ih =>
          obtain ⟨w, hw⟩ := wat n hn
          obtain ⟨b, hb⟩ : ∃ b, as[n]? = some b := ⟨_, List.getElem?_eq_getElem hn⟩
          rw [preL_succ, List.take_add_one, hw]
          simp only [Option.toList_some, List.flatten_append, List.flatten_cons, List.flatten_nil, List.append_nil]
          exact Vals.append (ih (by omega)) (hcs n b w hb hw).1
      have full := pre as.length (Nat.le_refl _)
      rw [List.take_of_length_le (by omega)] at full
      have fl := full.length
      have rl := rf.len
      have fz : ws.flatten.length ≤ sizeLine := by rw [← SZ_eq, ← rl]; exact hz
      have isz : (as.map Value.ref).toArray.size = as.length := by simp
      refine sum_lists (cs := cs) (I.ok.hd hc) pl.isList (by simpa using e0) (fun i v hv => ?_) (by rw [isz, ← fl]; exact fz) fun h' tk t' m' hk ht' hor => ?_
      · have hv : (as.map Value.ref)[i]? = some v := by rw [← hv]; simp
        rw [List.getElem?_map] at hv
        cases hb : as[i]? with
        | none => rw [hb] at hv; cases hv
        | some b =>
          rw [hb] at hv
          cases hv
          obtain ⟨w, hw⟩ := wat i (List.getElem?_eq_some_iff.mp hb).1
          obtain ⟨_, o, n, g1, g2, g3, g4⟩ := hcs i b w hb hw
          exact ⟨b, o, n, rfl, g1, g2, g4⟩
      · rw [isz] at ht'
        rcases hor with rfl | hnew
        · refine ⟨.ref t', H, I.kept hk, rfl, q2 ?_⟩
          have e1 := hk _ _ e0
          rw [ht'] at e1
          have e2 : (preL cs as.length).toArray = #[] := by
            have e3 := congrArg Obj.data (Option.some.inj e1)
            injection e3
          have e4 : preL cs as.length = [] := by simpa using e2
          rw [e4] at fl
          refine List.eq_nil_of_length_eq_zero ?_
          rw [rl, fl]; rfl
        · exact ⟨.ref t', upd H t' (.lst ws.flatten), I.laid hk hnew ⟨fz, preL cs as.length, m', full, ht'⟩, rfl, q1 _ _ rf (I.hok.fresh hnew)⟩
end
/-! ### the readings -/
section
variable {C : Call} {K : PySem.W.Frag} {F H F1 H1 F2 H2 : Hp} {r r1 r2 : Env} {σ σ1 : SG}
theorem rpA_ns : ∀ ns : List Int, RpA K F (ns.map PyData.int) (ns.map V.int)
  | [] => RpA.nil
  | n :: ns => RpA.cons rfl (rpA_ns ns)
theorem core_ss {w : World} {a : Ex} {Q : VK} (h : tE C K (.ss a) σ H Q) : tCB (rSortedSetN w) (tCons (tCB (rSetI K w) (tCons (tE C K a) tNil)) tNil) σ H Q := by
  obtain ⟨F, r, u, r', wd, he, q⟩ := h
  simp only [evE] at he
  split at he
  · rename_i x r1 h1
    split at he
    · rename_i d h2
      split at he
      · rename_i xs h3
        split at he
        · rename_i ns h4
          split at he
          · rename_i h5
            simp only [Option.some.injEq, Prod.mk.injEq] at he
            obtain ⟨rfl, rfl⟩ := he
            refine ⟨F, r, x, r1, wd, h1, fun v F1 H1 p => ?_⟩
            have vw := see_ok p.wd p.rp h2
            obtain ⟨b, rfl, sb⟩ : ∃ b, v = .ref b ∧ (SqL K H1 b (ns.map V.int) ∨ SqT K H1 b (ns.map V.int)) := by
              cases d with
              | list ys =>
                cases h3
                obtain ⟨b, vs, e, s1, s2⟩ := vw.lst p.wd.le
                obtain rfl := s2.ints h4
                exact ⟨b, e, .inl s1⟩
              | tuple ys =>
                cases h3
                obtain ⟨b, vs, e, s1, s2⟩ := vw.tup
                obtain rfl := s2.ints h4
                exact ⟨b, e, .inr (SqT.mono p.wd.le s1)⟩
              | _ => cases h3
            refine ⟨b, ns, rfl, sb, h5, fun c n hc hn => ?_⟩
            refine ⟨c, _, n, rfl, upd_same, by rw [sizeLine_eq]; omega, fun ms e1 m1 m2 m3 m4 => ?_⟩
            obtain rfl : ms = ssL ns := lt_ext m1 (ssL_lt ns) fun z => by rw [m2, ssL_mem]; exact decide_eq_true_iff
            have ne : e1 ≠ c := fun z => by rw [z, upd_same] at m4; cases m4
            have hp : H1 e1 = none := by rw [upd_ne ne] at m4; exact m4
            refine Res.of p.fr p.wd p.sub q (.ref e1) F1 _ ((Fr.refl.up hc).up m4) (p.wd.le.trans ((same_up hc).trans (same_up m4))) ⟨e1, rfl, ⟨p.wd.le.free hp, (ssL ns).map V.int, upd_same, rpA_ns (ssL ns)⟩, hp⟩
          · cases he
        · cases he
      · cases he
    · cases he
  · cases he
theorem core_s2 {a : Ex} {Q : VK} (h : tE C K (.s2 a) σ H Q) : tCB (rSum2 K) (tCons (tE C K a) (tCons (tLst tNil) tNil)) σ H Q := by
  obtain ⟨F, r, u, r', wd, he, q⟩ := h
  simp only [evE] at he
  split at he
  · rename_i x r1 h1
    split at he
    · rename_i xs h2
      split at he
      · rename_i ls h4
        split at he
        · rename_i h5
          simp only [Option.some.injEq, Prod.mk.injEq] at he
          obtain ⟨rfl, rfl⟩ := he
          refine ⟨F, r, x, r1, wd, h1, fun v F1 H1 p => ?_⟩
          have vw := see_ok p.wd p.rp h2
          refine ⟨Nat.zero_le _, fun t ht => ?_⟩
          have f1 : Fr noO F1 H1 F1 (upd H1 t (.lst [])) := Fr.refl.up ht
          have le1 : Same F1 (upd H1 t (.lst [])) := p.wd.le.trans (same_up ht)
          refine ⟨F1, v, t, xs, ls, rfl, le1, ?_, upd_same, h4, h5, fun ws c rw_ hc => ?_, fun e => ?_⟩
          · rcases vw with vw | ⟨b, e, ow⟩
            · exact .inl vw
            · exact .inr ⟨b, e, ow.go f1 id⟩
          · have ne : c ≠ t := fun z => by rw [z, upd_same] at hc; cases hc
            have hp : H1 c = none := by rw [upd_ne ne] at hc; exact hc
            exact Res.of p.fr p.wd p.sub q (.ref c) F1 _ (f1.up hc) (le1.trans (same_up hc)) ⟨c, rfl, ⟨p.wd.le.free hp, ws, upd_same, rw_⟩, hp⟩
          · rw [e] at q
            exact Res.of p.fr p.wd p.sub q (.ref t) F1 _ f1 le1 ⟨t, rfl, ⟨p.wd.le.free ht, [], upd_same, RpA.nil⟩, ht⟩
        · cases he
      · cases he
    · cases he
  · cases he
end
end Bx

set_option Elab.async false
set_option linter.all false
set_option maxRecDepth 100000
set_option autoImplicit false
set_option maxHeartbeats 4000000
/-! isinstance of a caught exception. -/
namespace Bx
open PySem PySem.Spec PyProof.Rows L2
theorem inst_of {X : Cx} {pins : List (Addr × Obj)} {s : Shared} {σ : SG} {H : Hp} {c : Str} {a : Addr} (I : Inv X pins σ H s) (h : H a = some (ExH X.K c a)) : ∃ oe, PySem.W.InstAt s.heap a oe (He.ga X.K c) none := by
  obtain ⟨⟨oe, vs, h1, hz, hv⟩, _⟩ := (show ObjOk X.prog X.w H s.heap a (ExH X.K c a) from I.hok a _ h)
  obtain ⟨oc, od, oda, osl⟩ := oe
  obtain ⟨z1, z2⟩ := hz
  dsimp only at z1 z2 hv
  subst z1 z2 hv
  exact ⟨_, h1, rfl, rfl, trivial⟩
/-- isinstance(e, c) -/
def rIsX (K : PySem.W.Frag) : List V → Hp → VK → Prop := fun xs H Q => ∃ (a : Addr) (c : Str) (cV : V) (cv : Value) (b : Bool), xs = [.ref a, cV] ∧ H a = some (ExH K c a) ∧ ExcC K (He.ga K c) ∧ (∀ u, RelV cV u → u = cv) ∧ PySem.W.kitOne K (.ref (He.ga K c)) cv = some b ∧ Q (.bl b) H
theorem call_isX {X : Cx} : CallR X (.builtin "isinstance") (rIsX X.K) := by
  intro pins s σ H xs us Q I r h
  obtain ⟨a, c, cV, cv, b, rfl, hA, C, hcv, e, q⟩ := h
  obtain ⟨u1, u2, rfl, r1, r2⟩ := vals2 r
  cases (show u1 = Value.ref a from r1)
  have ec := hcv _ r2
  subst ec
  obtain ⟨oe, J⟩ := inst_of I hA
  exact PySem.W.kia_one (PySem.W.handS_kitx_exc C.hg C.hk C.hs C.hd C.ha C.hn C.ht C.hm) I.kIn J e (fun z => nomatch z) fun tk => ⟨.bl b, H, I.tok tk, rfl, q⟩
/-- isinstance(e, (c, ..)) -/
def rIsXT (K : PySem.W.Frag) : List V → Hp → VK → Prop := fun xs H Q => ∃ (a tp : Addr) (c : Str) (cs : List Addr) (b : Bool), xs = [.ref a, .ref tp] ∧ H a = some (ExH K c a) ∧ ExcC K (He.ga K c) ∧ H tp = some (.tup (cs.map V.ref)) ∧ PySem.W.kitAny K (.ref (He.ga K c)) (cs.map Value.ref) = some b ∧ Q (.bl b) H
theorem refs_all : ∀ {cs : List Addr} {its : List Value}, Vals (cs.map V.ref) its → its = cs.map Value.ref
  | [], _, h => by cases h; rfl
  | c :: cs, _, h => by
    cases h with
    | cons a b =>
      cases (show _ = Value.ref c from a)
      rw [refs_all b]
      rfl
theorem call_isXT {X : Cx} : CallR X (.builtin "isinstance") (rIsXT X.K) := by
  intro pins s σ H xs us Q I r h
  obtain ⟨a, tp, c, cs, b, rfl, hA, C, hT, e, q⟩ := h
  obtain ⟨u1, u2, rfl, r1, r2⟩ := vals2 r
  cases (show u1 = Value.ref a from r1)
  cases (show u2 = Value.ref tp from r2)
  obtain ⟨oe, J⟩ := inst_of I hA
  obtain ⟨_, its, rv, o, h1, h2, n, h3⟩ := (show ObjOk X.prog X.w H s.heap tp (.tup (cs.map V.ref)) from I.hok tp _ hT)
  have e3 := refs_all rv
  subst e3
  obtain ⟨oc, od, dt, sl⟩ := o
  simp only at h2 h3
  subst h2 h3
  exact PySem.W.kia_tup (PySem.W.handS_kitx_exc C.hg C.hk C.hs C.hd C.ha C.hn C.ht C.hm) I.kIn J h1 e (fun z => nomatch z) fun tk => ⟨.bl b, H, I.tok tk, rfl, q⟩
section
variable {G : Gm} {C : Call} {k : Nat} {X : Cx} {own : Scope}
theorem boot_isx : bootBuiltins "isinstance" = some (.builtin "isinstance") := by decide +kernel
def tNs (K : PySem.W.Frag) : List Str → TA := fun ys _ H Q => Q (ys.map fun y => V.ref (He.ga K y)) H
theorem sNs (g : Gd G C k X own) : ∀ {es : List Expr} {ys : List Str}, clsNs G X.env.scope es = some ys → PA X es (tNs X.K ys) ∧ ∀ y ∈ ys, G.tcls.contains y = true
  | [], ys, h => by
    cases h
    exact ⟨PA.imp pa_nil fun _ _ _ q => q, by simp⟩
  | e :: es, ys, h => by
    cases e with
    | Name y py =>
      unfold clsNs at h
      split at h
      · rename_i hc
        simp only [Bool.and_eq_true] at hc
        obtain ⟨⟨c1, c2⟩, c3⟩ := hc
        split at h
        · rename_i zs hz
          cases h
          obtain ⟨p, m⟩ := sNs g hz
          have f := (g.tcls y (by simpa using c1)).1
          refine ⟨PA.imp (pa_cons (pe_glob (v := .ref (He.ga X.K y)) (gloB_of c2) f rfl (nmOk_of c3).1) p rfl) fun _ _ _ q => q, fun z hz' => ?_⟩
          rcases List.mem_cons.mp hz' with rfl | hz'
          · exact c1
          · exact m z hz'
        · cases h
      · cases h
    | _ => simp [clsNs] at h
theorem any_kit {K : PySem.W.Frag} {t : Value} {f : Str → Bool} : ∀ {ys : List Str}, (∀ y ∈ ys, PySem.W.kitOne K t (.ref (He.ga K y)) = some (f y)) → PySem.W.kitAny K t ((ys.map fun y => He.ga K y).map Value.ref) = some (ys.any f)
  | [], _ => rfl
  | y :: ys, h => by
    have ih := any_kit (t := t) (f := f) fun z hz => h z (List.mem_cons_of_mem _ hz)
    rw [List.map_cons, List.map_cons, List.any_cons]
    unfold PySem.W.kitAny
    rw [h y List.mem_cons_self]
    cases f y with
    | true => rfl
    | false => exact ih
theorem core_isx {K : PySem.W.Frag} {σ : SG} {H : Hp} {i : Nat} {al ts : List Str} {Q : VK} (h : tE C K (.isx i al ts) σ H Q) : ∃ (F : Hp) (a : Addr) (c : Str), σ[i]? = some (some (.ref a)) ∧ al.contains c = true ∧ Same F H ∧ F a = some (ExH K c a) ∧ ∀ F' H', Fr noO F H F' H' → Same F' H' → Q (.bl (ts.contains c)) H' := by
  obtain ⟨F, r, w, r', wd, he, q⟩ := h
  simp only [evE] at he
  split at he
  · rename_i c hr
    split at he
    · rename_i hc
      simp only [Option.some.injEq, Prod.mk.injEq] at he
      obtain ⟨rfl, rfl⟩ := he
      obtain ⟨a, e1, z⟩ := wd.sl i _ hr
      exact ⟨F, a, c, e1, hc, wd.le, z, fun F' H' f le => q _ F' H' (Pe.res Fr.refl wd (fun _ k => k) f le rfl)⟩
    · cases he
  · cases he
theorem sIx {i : Nat} {al ts : List Str} {ae : Expr} (g : Gd G C k X own) (h : mIx X.N G X.env.scope i al ts ae = true) : PE X ae (tE C X.K (.isx i al ts)) := by
  unfold mIx at h
  split at h
  · rename_i x px z pz t pos
    simp only [Bool.and_eq_true, decide_eq_true_eq] at h
    obtain ⟨⟨⟨⟨⟨rfl, h2⟩, h3⟩, h4⟩, h5⟩, h6⟩ := h
    have exc : ∀ c, al.contains c = true → c ∈ G.excs := fun c hc => by
      have := List.all_eq_true.mp h5 c (by simpa using hc)
      simpa using this
    split at h6
    · rename_i y py
      split at h6
      · rename_i ey
        subst ey
        simp only [Bool.and_eq_true] at h6
        obtain ⟨⟨k1, k2⟩, k3⟩ := h6
        refine PE.imp (pe_callB call_isX (gloB_of h2) (g.blts _ h3) boot_isx (pa_cons (mV_of h4) (pa_cons (pe_bltn (v := .ty "ValueError") (gloB_of k1) (g.blts _ k2) (by decide +kernel : bootBuiltins "ValueError" = some (.type "ValueError")) rfl (by decide) (by decide)) pa_nil rfl) rfl) (by decide) (by decide) rfl rfl) fun σ H Q q => ?_
        obtain ⟨F, a, c, e1, hc, le, z, q⟩ := core_isx q
        have t1 : ts.contains c = true := List.all_eq_true.mp k3 c (by simpa using hc)
        refine ⟨.ref a, e1, a, c, _, .type "ValueError", true, rfl, le _ _ z, (g.ecs c (exc c hc)).1, fun u r => ?_, (g.ecs c (exc c hc)).2, ?_⟩
        · cases u <;> first | cases r; rfl | cases r
        · have := q F H Fr.refl le
          rw [t1] at this
          exact this
      · simp only [Bool.and_eq_true] at h6
        obtain ⟨⟨⟨k1, k2⟩, k3⟩, k4⟩ := h6
        obtain ⟨f1, f2⟩ := g.tcls y (by simpa using k1)
        refine PE.imp (pe_callB call_isX (gloB_of h2) (g.blts _ h3) boot_isx (pa_cons (mV_of h4) (pa_cons (pe_glob (v := .ref (He.ga X.K y)) (gloB_of k2) f1 rfl (nmOk_of k3).1) pa_nil rfl) rfl) (by decide) (by decide) rfl rfl) fun σ H Q q => ?_
        obtain ⟨F, a, c, e1, hc, le, z, q⟩ := core_isx q
        have t1 : ts.contains c = G.tsub.contains (c, y) := by
          have := List.all_eq_true.mp k4 c (by simpa using hc)
          exact eq_of_beq this
        refine ⟨.ref a, e1, a, c, _, .ref (He.ga X.K y), _, rfl, le _ _ z, (g.ecs c (exc c hc)).1, fun u r => r, f2 c (exc c hc), ?_⟩
        have := q F H Fr.refl le
        rw [t1] at this
        exact this
    · rename_i es kk tp
      split at h6
      · rename_i ys hys
        simp only [Bool.and_eq_true, decide_eq_true_eq] at h6
        obtain ⟨k1, k2⟩ := h6
        obtain ⟨pA, mem⟩ := sNs g hys
        refine PE.imp (pe_callB call_isXT (gloB_of h2) (g.blts _ h3) boot_isx (pa_cons (mV_of h4) (pa_cons (pe_tup pA) pa_nil rfl) rfl) (by decide) (by decide) rfl rfl) fun σ H Q q => ?_
        obtain ⟨F, a, c, e1, hc, le, z, q⟩ := core_isx q
        have t1 : ts.contains c = ys.any fun y => G.tsub.contains (c, y) := by
          have := List.all_eq_true.mp k2 c (by simpa using hc)
          exact eq_of_beq this
        refine ⟨.ref a, e1, by rw [List.length_map, ← SZ_eq]; exact Nat.le_trans (Nat.le_of_lt k1) (by decide), fun p hp => ?_⟩
        have hAp : H a = some (ExH X.K c a) := le _ _ z
        refine ⟨a, p, c, ys.map fun y => He.ga X.K y, ys.any fun y => G.tsub.contains (c, y), rfl, by rw [upd_ne (ne_of_none hAp hp)]; exact hAp, (g.ecs c (exc c hc)).1, by rw [upd_same, List.map_map]; rfl,
          any_kit fun y hy => (g.tcls y (by simpa using mem y hy)).2 c (exc c hc), ?_⟩
        have := q F (upd H p (.tup (ys.map fun y => V.ref (He.ga X.K y)))) (Fr.refl.up hp) (le.trans (same_up hp))
        rw [t1] at this
        exact this
      · cases h6
    · cases h6
  · cases h
end
end Bx

set_option Elab.async false
set_option linter.all false
set_option maxRecDepth 100000
set_option autoImplicit false
set_option maxHeartbeats 2000000
/-! List comprehensions. -/
namespace Bx
open PySem PySem.Spec PyProof.Rows L2

def lcF (C : Call) (t : Tg) (c e : Ex) (own : List Nat) : PyData → Env → Option (Option PyData × Env) := fun x r => match asgT t x (killS r own) with
  | some r2 => match evE C c r2 with
    | some (.fr (.bool true), r3) => match evE C e r3 with
      | some (w, r4) => match fz w with
        | some y => some (some y, killS r4 own)
        | none => none
      | none => none
    | some (.fr (.bool false), r3) => some (none, killS r3 own)
    | _ => none
  | none => none
theorem lc_inv {C : Call} {t : Tg} {c e : Ex} {own : List Nat} {x : PyData} {xs acc : List PyData} {r : Env} {q : List PyData × Env} (h : compL (lcF C t c e own) (x :: xs) acc r = some q) :
    ∃ ra, asgT t x (killS r own) = some ra ∧ ∃ b rb, evE C c ra = some (.fr (.bool b), rb) ∧
      ((b = true ∧ ∃ w rc dy, evE C e rb = some (w, rc) ∧ fz w = some dy ∧ acc.length < SZ ∧ compL (lcF C t c e own) xs (acc ++ [dy]) (killS rc own) = some q) ∨ (b = false ∧ compL (lcF C t c e own) xs acc (killS rb own) = some q)) := by
  unfold compL at h
  split at h
  · rename_i y r1 h1
    split at h
    · rename_i hz
      unfold lcF at h1
      split at h1
      · rename_i ra ha
        split at h1
        · rename_i rb hb
          split at h1
          · rename_i w rc hc
            split at h1
            · rename_i dy hd
              simp only [Option.some.injEq, Prod.mk.injEq] at h1
              obtain ⟨rfl, rfl⟩ := h1
              exact ⟨ra, ha, true, rb, hb, .inl ⟨rfl, w, rc, dy, hc, hd, hz, h⟩⟩
            · cases h1
          · cases h1
        · simp at h1
        · cases h1
      · cases h1
    · cases h
  · rename_i r1 h1
    unfold lcF at h1
    split at h1
    · rename_i ra ha
      split at h1
      · rename_i rb hb
        split at h1
        · split at h1
          · simp at h1
          · cases h1
        · cases h1
      · rename_i rb hb
        simp only [Option.some.injEq, Prod.mk.injEq, true_and] at h1
        subst h1
        exact ⟨ra, ha, false, rb, hb, .inr ⟨rfl, h⟩⟩
      · cases h1
    · cases h1
  · cases h
theorem asgT_len {t : Tg} : ∀ {d : PyData} {r r' : Env}, asgT t d r = some r' → r'.length = r.length := by
  induction t with
  | nm i =>
    intro d r r' h
    simp only [asgT] at h
    split at h
    · cases h
      rw [List.length_set]
    · cases h
  | tup a b iha ihb =>
    intro d r r' h
    cases d with
    | tuple ds =>
      cases ds with
      | nil => cases h
      | cons x xs =>
        simp only [asgT] at h
        split at h
        · rename_i r1 h1
          rw [ihb h, iha h1]
        · cases h
    | list ds =>
      cases ds with
      | nil => cases h
      | cons x xs =>
        simp only [asgT] at h
        split at h
        · rename_i r1 h1
          rw [ihb h, iha h1]
        · cases h
    | _ => cases h
  | tupn =>
    intro d r r' h
    cases d with
    | tuple ds =>
      cases ds with
      | nil => cases h; rfl
      | cons x xs => cases h
    | _ => cases h
theorem wipe_in {σ : SG} {j : Nat} : ∀ {vs : List Nat}, j ∈ vs → j < σ.length → (wipe σ vs)[j]? = some none
  | [], h, _ => by simp at h
  | v :: vs, h, hl => by
    unfold wipe
    by_cases e : v = j
    · subst e
      rw [List.getElem?_set_self (by rw [wipe_length]; exact hl)]
    · rw [List.getElem?_set_ne e]
      exact wipe_in (by rcases List.mem_cons.mp h with z | z; exact (e z.symm).elim; exact z) hl
theorem wipe_same {σ σ2 : SG} {own : List Nat} (hl : σ2.length = σ.length) (h : ∀ j, j ∉ own → σ2[j]? = σ[j]?) : wipe σ2 own = wipe σ own := by
  apply List.ext_getElem?
  intro j
  by_cases hj : j ∈ own
  · by_cases hb : j < σ.length
    · rw [wipe_in hj hb, wipe_in hj (by omega)]
    · rw [List.getElem?_eq_none (by rw [wipe_length]; omega), List.getElem?_eq_none (by rw [wipe_length]; omega)]
  · rw [wipe_out hj, wipe_out hj, h j hj]
section
variable {C : Call} {K : PySem.W.Frag} {F H F1 H1 F2 H2 : Hp} {r r1 r2 : Env} {σ σ1 : SG}
theorem Fr.out {O : Addr → Prop} {D : Addr} {o : HO} (f : Fr O F H F1 H1) (h : H D = none) : Fr O F H F1 (upd H1 D o) :=
  ⟨f.ff, f.new, fun c u e n => by rw [upd_ne (ne_of_none e h)]; exact f.hh c u e n⟩
/-- what is new stays as it is -/
theorem Fr.at {O : Addr → Prop} {D : Addr} {o : HO} (f : Fr O F H F1 H1) (hF : F D = none) (h : H D = some o) (n : ¬ O D) : F1 D = none ∧ H1 D = some o := by
  refine ⟨?_, f.hh D o h n⟩
  cases k : F1 D with
  | none => rfl
  | some u =>
    rcases f.new D u k with z | ⟨_, z⟩
    · rw [hF] at z; cases z
    · rcases z with z | z
      · exact (n z).elim
      · rw [h] at z; cases z
theorem core_lc {t : Tg} {it : Itr} {c e : Ex} {own : List Nat} {tt : TT} {Q : VK} (hst : ∀ i ∈ t.st, i ∈ own) (htt : ∀ σ H Q, tT C K c σ H Q → tt σ H Q) (h : tE C K (.lc t it c e own) σ H Q) : tLc (tI C K it) (tG K t) tt (tE C K e) own σ H Q := by
  obtain ⟨F, r, w, r', wd, he, q⟩ := h
  simp only [evE] at he
  split at he
  · rename_i xs hs r1 hi
    split at he
    · rename_i ys r5 hc
      simp only [Option.some.injEq, Prod.mk.injEq] at he
      obtain ⟨rfl, rfl⟩ := he
      have hc : compL (lcF C t c e own) xs [] (killS (hide r1 hs) own) = some (ys, r5) := hc
      refine ⟨F, r, xs, hs, r1, wd, hi, fun J F1 H1 f1 w1 s1 hO wk D hD => ?_⟩
      let P : Addr → Prop := Own (hide r1 hs) σ
      have PD : ¬ P D := fun k => by
        obtain ⟨_, u, hu⟩ := w1.own (own_hide k)
        rw [hD] at hu; cases hu
      let W : Nat → Nat → Hp → Prop := fun i m H2 => m = xs.length - i ∧ i ≤ xs.length ∧ ∃ F2 r2 acc accV, Fr P F1 H1 F2 H2 ∧ Wd K F2 H2 r2 (wipe σ own) ∧ (∀ a, Own r2 (wipe σ own) a → P a) ∧ F2 D = none ∧ H2 D = some (.lst accV) ∧ RpA K F2 acc accV ∧ (∀ j ∈ own, ∀ x : Sl, r2[j]? = some x → x = .no) ∧
        compL (lcF C t c e own) (xs.drop i) acc r2 = some (ys, r5)
      refine ⟨W, ⟨xs.length, rfl, Nat.zero_le _, F1, _, [], [], Fr.refl.out hD, ?_, fun a k => ?_, w1.le.free hD, upd_same, RpA.nil, fun j hj x h => ?_, hc⟩, ?_⟩
      · have w2 : Wd K F1 H1 (killS (hide r1 hs) own) (wipe σ own) := by
          rw [kill_hide]
          exact ((w1.hide hs).hide own).agree (wipe_length ..) fun j x h n => hide_wipe j x h n
        refine w2.out (w1.le.free hD) fun k => PD ?_
        rw [kill_hide] at k
        exact own_hide (own_agree (fun j x h n => hide_wipe j x h n) k)
      · rw [kill_hide] at k
        exact own_hide (own_agree (fun j x h n => hide_wipe j x h n) k)
      · rw [kill_hide] at h
        exact hide_in hj h
      · rintro i m H2 ⟨rfl, hil, F2, r2, acc, accV, f2, w2, s2, hFD, hHD, ra, hno, hcc⟩
        by_cases hlt : i < xs.length
        · right
          rw [List.drop_eq_getElem_cons hlt] at hcc
          obtain ⟨ra1, ha1, b, rb, hb, hrest⟩ := lc_inv hcc
          have hwk := (wk F2 H2 f2 w2.le).2 i xs[i] (List.getElem?_eq_getElem hlt)
          refine ⟨hwk.1, fun H' => W (i + 1) (xs.length - (i + 1)) H', fun H' k => ⟨_, by omega, k⟩, fun v H3 hy => ?_⟩
          obtain ⟨F3, f3, le3, rv⟩ := hwk.2 v H3 hy
          have w3 : Wd K F3 H3 (killS r2 own) (wipe σ own) := by rw [kill_hide]; exact (w2.go f3 le3).hide own
          have d3 := f3.at hFD hHD id
          refine ⟨F3, xs[i], killS r2 own, ra1, w3, rv, ha1, fun σ2 w4 ag4 s4 => ?_⟩
          have hl2 : σ2.length = (wipe σ own).length := by rw [← w4.len, asgT_len ha1, w3.len]
          have agO : ∀ j, j ∉ own → σ2[j]? = (wipe σ own)[j]? := fun j hj => ag4 j fun hm => hj (hst j hm)
          refine ⟨?_, htt _ _ _ ⟨F3, ra1, b, rb, w4, hb, fun F4 H4 f5 w5 s5 => ?_⟩⟩
          · refine wipe_same (hl2.trans (wipe_length ..)) fun j hj => ?_
            rw [agO j hj, wipe_out hj]
          -- back from a turn
          have sub0 : ∀ a, Own ra1 σ2 a → Own r2 (wipe σ own) a := fun a k => by
            have := s4 a k
            rw [kill_hide] at this
            exact own_hide this
          have notD : ¬ Own r2 (wipe σ own) D := fun k => PD (s2 D k)
          have fin : ∀ {F' H' : Hp} {r' : Env}, Wd K F' H' r' σ2 → (∀ a, Own r' σ2 a → Own ra1 σ2 a) → Wd K F' H' (killS r' own) (wipe σ own) ∧ ∀ a, Own (killS r' own) (wipe σ own) a → Own r2 (wipe σ own) a := fun {F' H' r'} w' s' => by
            have ag : ∀ (j : Nat) (x : Sl), (hide r' own)[j]? = some x → x ≠ .no → (wipe σ own)[j]? = σ2[j]? := fun j x h n => by
              rcases hide_get h with ⟨_, e⟩ | ⟨hj, _⟩
              · exact (n e).elim
              · exact (agO j hj).symm
            rw [kill_hide]
            exact ⟨(w'.hide own).agree hl2.symm ag, fun a k => sub0 a (s' a (own_hide (own_agree ag k)))⟩
          have f25 : Fr (Own r2 (wipe σ own)) F2 H2 F4 H4 := (Fr.weak f3 fun _ z => z.elim).trans f5 fun a k => .inl (sub0 a k)
          have d4 := f25.at hFD hHD notD
          rcases hrest with ⟨rfl, w, rc, dy, hev, hfz, hz, hcl⟩ | ⟨rfl, hcl⟩
          · show tE C K e σ2 H4 _
            refine ⟨F4, rb, w, rc, w5, hev, fun y F5 H5 p => ?_⟩
            obtain ⟨F6, f6, w6, ry, sf⟩ := freeze1 p hfz
            have f26 : Fr (Own r2 (wipe σ own)) F2 H2 F6 H5 := f25.trans f6 fun a k => .inl (sub0 a (s5 a k))
            have d6 := f26.at hFD hHD notD
            obtain ⟨w7, s7⟩ := fin w6 fun a k => s5 a (p.sub a k)
            refine ⟨accV, d6.2, by rw [← ra.len, ← SZ_eq]; exact hz, rfl, hlt, F6, _, acc ++ [dy], accV ++ [y], (f2.trans f26 fun a k => .inl (s2 a k)).out hD, ?_, fun a k => s2 a (s7 a k), d6.1, upd_same, ?_, fun j hj x h => ?_, hcl⟩
            · exact w7.out d6.1 fun k => notD (s7 D k)
            · exact (RpA.mono f26.ff _ _ ra).app (RpA.cons ry RpA.nil)
            · rw [kill_hide] at h
              exact hide_in hj h
          · show W (i + 1) (xs.length - (i + 1)) H4
            obtain ⟨w7, s7⟩ := fin w5 s5
            exact ⟨rfl, hlt, F4, _, acc, accV, f2.trans f25 fun a k => .inl (s2 a k), w7, fun a k => s2 a (s7 a k), d4.1, d4.2, RpA.mono f25.ff _ _ ra, fun j hj x h => by rw [kill_hide] at h; exact hide_in hj h, hcl⟩
        · left
          have e : i = xs.length := by omega
          subst e
          refine ⟨(wk F2 H2 f2 w2.le).1, ?_⟩
          rw [List.drop_length] at hcc
          simp only [compL, Option.some.injEq, Prod.mk.injEq] at hcc
          obtain ⟨rfl, rfl⟩ := hcc
          have ag : ∀ (j : Nat) (x : Sl), r2[j]? = some x → x ≠ .no → σ[j]? = (wipe σ own)[j]? := fun j x h n => by
            by_cases hj : j ∈ own
            · exact (n (hno j hj x h)).elim
            · exact (wipe_out hj).symm
          have w3 : Wd K F2 H2 r2 σ := w2.agree (wipe_length ..).symm ag
          obtain ⟨w4, s4⟩ := Wd.back (P := P) w1 w3 f2 hO (fun a k => s2 a (own_agree ag k)) (fun a k => .inl k) fun _ _ => rfl
          have s5 : ∀ a, Own (back r1 r2 hs) σ a → Own r1 σ a := fun a k => by
            rcases s4 a k with k | k
            · exact own_hide (s2 a (own_agree ag k))
            · exact k.1
          refine q _ F2 H2 ⟨f1.trans f2 fun a k => .inl (s1 a (own_hide k)), w4, fun a k => s1 a (s5 a k), ⟨D, rfl, ⟨hFD, accV, hHD, ra⟩, fun k => ?_⟩, fun a e => ?_⟩
          · obtain ⟨_, u, hu⟩ := w1.own (s5 D k)
            rw [hD] at hu; cases hu
          · cases e
            by_cases no : Own r σ D
            · exact .inr no
            · left
              cases k : H D with
              | none => rfl
              | some u => rw [f1.hh D u k no] at hD; cases hD
    · cases he
  · cases he
end
end Bx

set_option Elab.async false
set_option linter.all false
set_option maxRecDepth 100000
set_option autoImplicit false
set_option maxHeartbeats 4000000
/-! Every expression. -/
namespace Bx
open PySem PySem.Spec PyProof.Rows L2

section
variable {G : Gm} {C : Call} {k : Nat} {X : Cx} {own : Scope}
theorem notSet_fold {iter : Expr} {env : PySem.Env} (h : notSet iter = true) : ∀ x, foldedSetIterable iter env x = pure x := by
  intro x
  cases iter <;> first | rfl | cases h
theorem notSet_mark {op : CmpOp} {y : Expr} (h : notSet y = true) : behindInMarks op y = false := by
  cases y <;> first | rfl | cases h
theorem plain_ix {y : Expr} (h : isSlice y = false) : PlainIx y := by
  intro o i
  cases y <;> first | rfl | cases h
theorem plain_test {e : Expr} {env : PySem.Env} (h : plainT e = true) : ∀ whole, isTrue e env whole = (do let v ← whole; standAt e.pos; holding [v] (truthy v)) := by
  intro w
  cases e with
  | UnaryOp op x p => cases op <;> first | rfl | cases h
  | _ => first | rfl | cases h
theorem mEs_len {N : List Str} {sc : Scope} : ∀ {es : Exs} {as : List Expr}, mEs N G sc es as = true → es.len = as.length
  | .nil, [], _ => rfl
  | .nil, _ :: _, h => by simp [mEs] at h
  | .cons _ _, [], h => by simp [mEs] at h
  | .cons e es, a :: as, h => by
    simp only [mEs, Bool.and_eq_true] at h
    exact congrArg Nat.succ (mEs_len h.2)
theorem boot_bt (b : Bt) : bootBuiltins (btN b) = some (btV b) := by cases b <;> decide +kernel
theorem btN_ne (b : Bt) : btN b ≠ "__name__" ∧ (btN b == ("__debug__" : Str)) = false := by cases b <;> decide +kernel
theorem boot_ty (t : Ty) : bootBuiltins (tyS t) = some (.type (tyN t)) := by cases t <;> decide +kernel
theorem tyS_ne (t : Ty) : tyS t ≠ "__name__" ∧ (tyS t == ("__debug__" : Str)) = false := by cases t <;> decide +kernel
theorem boot_isi : bootBuiltins "isinstance" = some (.builtin "isinstance") := by decide +kernel
theorem ty_mu (m : Mu) : typeOf (.builtin (muId m)) = pure (.type "method_descriptor") := by cases m <;> rfl
theorem slot_mu (m : Mu) : Slot "list" (muN m) (muId m) := by
  cases m
  · exact PySem.F.slot_list_append
  · exact PySem.F.slot_list_extend
  · exact PySem.F.slot_list_pop
  · exact PySem.F.slot_list_insert
  · exact PySem.F.slot_list_reverse
  · exact PySem.F.slot_list_clear
theorem sK {c : Cn} (g : Gd G C k X own) {ae : Expr} (h : mK G X.env.scope c ae = true) : PE X ae (tC c.v) := by
  unfold mK at h
  split at h
  · obtain rfl := of_decide_eq_true h
    exact pe_non
  · obtain rfl := of_decide_eq_true h
    exact pe_bl
  · obtain rfl := of_decide_eq_true h
    exact pe_int
  · obtain rfl := of_decide_eq_true h
    exact pe_str
  · simp only [Bool.and_eq_true, decide_eq_true_eq] at h
    obtain ⟨u, h1, h2⟩ := g.cons _ _ h.1.1
    exact pe_glob (gloB_of h.1.2) h1 h2 (nmOk_of h.2).1
  · cases h
theorem sTy (g : Gd G C k X own) {t : Ty} {ae : Expr} (h : mTy G X.env.scope t ae = true) : PE X ae (tC (.ty (tyN t))) := by
  unfold mTy at h
  split at h
  · simp only [Bool.and_eq_true, decide_eq_true_eq] at h
    obtain ⟨⟨rfl, h2⟩, h3⟩ := h
    exact pe_bltn (gloB_of h2) (g.blts _ h3) (boot_ty t) rfl (tyS_ne t).1 (tyS_ne t).2
  · cases h
def tTys : List Ty → TA := fun ts σ H Q => Q (ts.map fun t => V.ty (tyN t)) H
theorem sTys (g : Gd G C k X own) : ∀ {ts : List Ty} {as : List Expr}, noStars as = true → mTys G X.env.scope ts as = true → PA X as (tTys ts)
  | [], [], _, _ => PA.imp pa_nil fun _ _ _ q => q
  | t :: ts, e :: es, hn, h => by
    unfold mTys at h
    simp only [Bool.and_eq_true] at h
    obtain ⟨n1, n2⟩ := noStars_tail hn
    exact PA.imp (pa_cons (sTy g h.1) (sTys g n2 h.2) (star_cons n1)) fun _ _ _ q => q
  | [], _ :: _, _, h => by cases h
  | _ :: _, [], _, h => by cases h
theorem pairs_ty : ∀ ts : List Ty, Paired ClsV (ts.map fun t => V.ty (tyN t)) (ts.map fun t => Value.type (tyN t))
  | [] => .nil
  | t :: ts => .cons (.ty _) (pairs_ty ts)
theorem core_callB {b : Bt} (g : Gd G C k X own) {e : Expr} {es : List Expr} {t : TA} {p pos : Pos} (hb : btV b = .builtin (match btV b with | .builtin id => id | _ => "") ∨ btV b = .type (match btV b with | .type id => id | _ => ""))
    (hg : gloB X.env.scope (btN b) = true) (hl : G.blts.contains (btN b) = true) (ha : PA X (e :: es) t) (hn : noStars (e :: es) = true) : PE X (.Call (.Name (btN b) p) (e :: es) [] pos) (tCB (rBt X.K b) t) := by
  obtain ⟨n1, n2⟩ := noStars_tail hn
  have hc := bt_ok (X := X) b g.calm g.gd g.units
  have hv := boot_bt b
  rcases hb with hb | hb
  · rw [hb] at hc hv
    exact pe_callB hc (gloB_of hg) (g.blts _ hl) hv ha (btN_ne b).1 (btN_ne b).2 (star_cons n1) (star_none n2)
  · rw [hb] at hc hv
    exact pe_callTy hc (gloB_of hg) (g.blts _ hl) hv ha (btN_ne b).1 (btN_ne b).2 (star_cons n1) (star_none n2)
theorem btV_kind (b : Bt) : btV b = .builtin (match btV b with | .builtin id => id | _ => "") ∨ btV b = .type (match btV b with | .type id => id | _ => "") := by cases b <;> first | exact .inl rfl | exact .inr rfl
theorem PI.orr {tg e : Expr} {t t' : TI} (h : PI X tg e t) (h' : PI X tg e t') : PI X tg e (fun σ H R => t σ H R ∨ t' σ H R) := ⟨fun pins s σ H R I q => q.elim (h.run pins s σ H R I) (h'.run pins s σ H R I)⟩
theorem PE.orr {e : Expr} {t t' : TE} (h : PE X e t) (h' : PE X e t') : PE X e (fun σ H Q => t σ H Q ∨ t' σ H Q) := ⟨fun pins s σ H Q I q => q.elim (h.run pins s σ H Q I) (h'.run pins s σ H Q I)⟩
theorem mKs_some {sc : Scope} : ∀ {cs : List Cn} {es : List (Option Expr)}, mKs G sc cs es = true → es.all (·.isSome) = true
  | [], [], _ => rfl
  | c :: cs, some e :: es, h => by
    unfold mKs at h
    simp only [Bool.and_eq_true] at h
    rw [List.all_cons, mKs_some h.2]
    rfl
  | [], _ :: _, h => by simp [mKs] at h
  | _ :: _, [], h => by simp [mKs] at h
  | _ :: _, none :: _, h => by simp [mKs] at h
theorem isTup_of {tg : Expr} (h : isTupE tg = true) : ∃ es kk p, tg = .Tuple es kk p := by
  cases tg <;> first | exact ⟨_, _, _, rfl⟩ | cases h

/-! ### targets -/
theorem each_len {env : PySem.Env} : ∀ es : List Expr, (assignEach es env).length = es.length
  | [] => rfl
  | e :: es => by
    cases e <;> exact congrArg Nat.succ (each_len es)
theorem each_none {env : PySem.Env} : ∀ {es : List Expr}, noStars es = true → (assignEach es env).findIdx? (·.1) = none
  | [], _ => rfl
  | e :: es, h => by
    obtain ⟨n1, n2⟩ := noStars_tail h
    have : assignEach (e :: es) env = (false, assign e env) :: assignEach es env := by cases e <;> first | rfl | cases n1
    rw [this, List.findIdx?_cons]
    simp [each_none n2]
theorem mT_stars {N : List Str} {t : Tg} : ∀ {es : List Expr}, mT N own t (.inr es) = true → noStars es = true := by
  induction t with
  | nm i => intro es h; simp [mT] at h
  | tup a b iha ihb =>
    intro es h
    cases es with
    | nil => simp [mT] at h
    | cons e es =>
      simp only [mT, Bool.and_eq_true] at h
      unfold noStars
      rw [h.1.1, ihb h.2]
      rfl
  | tupn =>
    intro es h
    cases es with
    | nil => rfl
    | cons e es => simp [mT] at h
theorem mT_len {N : List Str} {t : Tg} : ∀ {es : List Expr} {ds : List PyData} {r r' : Env}, mT N own t (.inr es) = true → asgT t (.tuple ds) r = some r' → ds.length = es.length := by
  induction t with
  | nm i => intro es ds r r' h; simp [mT] at h
  | tup a b iha ihb =>
    intro es ds r r' h q
    cases es with
    | nil => simp [mT] at h
    | cons e es =>
      simp only [mT, Bool.and_eq_true] at h
      cases ds with
      | nil => cases q
      | cons d ds =>
        simp only [asgT] at q
        split at q
        · rw [List.length_cons, List.length_cons, ihb h.2 q]
        · cases q
  | tupn =>
    intro es ds r r' h q
    cases es with
    | nil =>
      cases ds with
      | nil => rfl
      | cons d ds => cases q
    | cons e es => simp [mT] at h
theorem base_bare {o : Expr} {nm : Str} {env : PySem.Env} (h : notBare o = true) : attributeBase o nm env (eval o env) = eval o env := by
  unfold attributeBase
  split
  · simp [notBare] at h
  · rfl
theorem PG.orr {e : Expr} {t t' : TG} (h : PG X e t) (h' : PG X e t') : PG X e (fun v σ H Q => t v σ H Q ∨ t' v σ H Q) := ⟨fun pins s σ H v u Q I r q => q.elim (h.run pins s σ H v u Q I r) (h'.run pins s σ H v u Q I r)⟩
theorem sG (g : Gd G C k X own) (t : Tg) : (∀ ae, mT X.N own t (.inl ae) = true → PG X ae (tG X.K t)) ∧ (∀ es, mT X.N own t (.inr es) = true → PGs X es (tGs X.K t)) := by
  induction t with
  | nm i =>
    refine ⟨fun ae h => ?_, fun es h => by simp [mT] at h⟩
    cases ae with
    | Name x pos =>
      simp only [mT, Bool.and_eq_true, decide_eq_true_eq] at h
      obtain ⟨h1, h2⟩ := g.sto x (storB_of h.2)
      exact PG.imp (pg_name g.nd h.1 h1 h2) fun v σ H Q q => core_nm q
    | _ => simp [mT] at h
  | tup a b iha ihb =>
    have tail : ∀ e es, notStar e = true → mT X.N own a (.inl e) = true → mT X.N own b (.inr es) = true → PGs X (e :: es) (tGs X.K (.tup a b)) := fun e es h1 h2 h3 => by
      have z := pgs_cons (iha.1 e h2) (ihb.2 es h3) (by cases e <;> first | rfl | cases h1)
      exact ⟨fun pins s σ H vs us Q I r q => z.run pins s σ H vs us Q I r (core_gs q)⟩
    refine ⟨fun ae h => ?_, fun es h => ?_⟩
    · cases ae with
      | Tuple es kk pos =>
        cases es with
        | nil => simp [mT] at h
        | cons e es =>
          simp only [mT, Bool.and_eq_true] at h
          have hi : mT X.N own (.tup a b) (.inr (e :: es)) = true := by simp only [mT, Bool.and_eq_true]; exact h
          exact PG.imp (PG.orr (pg_tup g.calm (tail e es h.1.1 h.1.2 h.2) (each_len _) (each_none (mT_stars hi))) (pg_lst g.calm (tail e es h.1.1 h.1.2 h.2) (each_len _) (each_none (mT_stars hi)))) fun v σ H Q q => core_tupG (fun ds r r' z => mT_len hi z) q
      | _ => simp [mT] at h
    · cases es with
      | nil => simp [mT] at h
      | cons e es =>
        simp only [mT, Bool.and_eq_true] at h
        exact tail e es h.1.1 h.1.2 h.2
  | tupn =>
    refine ⟨fun ae h => by cases ae <;> simp [mT] at h, fun es h => ?_⟩
    cases es with
    | nil => exact ⟨fun pins s σ H vs us Q I r q => pgs_nil.run pins s σ H vs us Q I r (core_tupn q)⟩
    | cons e es => simp [mT] at h
end

theorem yes_of {C : Call} {K : PySem.W.Frag} {c : Ex} {σ : SG} {H : Hp} {Q : Bool → Hp → Prop} (h : isYes c = true) (q : tT C K c σ H Q) : Q true H := by
  obtain ⟨F, r, b, r', wd, he, q⟩ := q
  unfold isYes at h
  split at h
  · simp only [evE, Option.some.injEq, Prod.mk.injEq, Sl.fr.injEq, Cn.d, PyData.bool.injEq] at he
    obtain ⟨rfl, rfl⟩ := he
    exact q F H Fr.refl wd fun _ k => k
  · cases h
theorem pt_plain {C : Call} {X : Cx} {e : Ex} {ae : Expr} (h : PE X ae (tE C X.K e)) (hp : plainT ae = true) : PT X ae (tT C X.K e) ∧ (∀ op vs pos, ae = .BoolOp op vs pos → PW X ae (tT C X.K e)) :=
  ⟨PT.imp (pt_val h (plain_test hp)) fun σ H Q q => tT_val q, fun op vs pos e => by subst e; cases hp⟩
theorem mE_fzn {N : List Str} {G : Gm} {sc : Scope} {a : Ex} {ae : Expr} (h : mE N G sc (.fzn a) ae = true) : notBO ae = true ∧ mE N G sc a ae = true := by
  have h' : (notBO ae && mE N G sc a ae) = true := by
    cases ae <;> first | exact h | (simpa [mE] using h)
  simpa using h'
theorem mE_xnn {N : List Str} {G : Gm} {sc : Scope} {i : Nat} {ae : Expr} (h : mE N G sc (.xnn i) ae = true) : ∃ (x : Str) (px : Pos) (y : Expr) (pos : Pos), ae = .Compare (.Name x px) [.IsNot] [y] pos ∧ notSet y = true ∧ mV N sc i x = true ∧ mK G sc .none y = true := by
  cases ae with
  | Compare l ops ys pos =>
    cases l with
    | Name x px =>
      match ops, ys, h with
      | [op], [y], h =>
        simp only [mE, Bool.and_eq_true, decide_eq_true_eq] at h
        obtain ⟨⟨⟨rfl, h0⟩, h1⟩, h2⟩ := h
        exact ⟨x, px, y, pos, rfl, h0, h1, h2⟩
      | [], _, h => simp [mE] at h
      | [_], [], h => simp [mE] at h
      | [_], _ :: _ :: _, h => simp [mE] at h
      | _ :: _ :: _, _, h => simp [mE] at h
    | _ => simp [mE] at h
  | _ => simp [mE] at h
theorem mE_isx {N : List Str} {G : Gm} {sc : Scope} {i : Nat} {al ts : List Str} {ae : Expr} (h : mE N G sc (.isx i al ts) ae = true) : mIx N G sc i al ts ae = true ∧ plainT ae = true := by
  have h' : mIx N G sc i al ts ae = true := by cases ae <;> simpa [mE] using h
  exact ⟨h', by cases ae <;> first | rfl | (simp [mIx] at h')⟩
theorem mE_ss {N : List Str} {G : Gm} {sc : Scope} {a : Ex} {ae : Expr} (h : mE N G sc (.ss a) ae = true) : ∃ (p p2 pos pos2 : Pos) (e : Expr), ae = .Call (.Name ("sorted" : Str) p) [.Call (.Name ("set" : Str) p2) [e] [] pos2] [] pos ∧
    gloB sc ("sorted" : Str) = true ∧ gloB sc ("set" : Str) = true ∧ G.blts.contains ("sorted" : Str) = true ∧ G.blts.contains ("set" : Str) = true ∧ noStars [e] = true ∧ mE N G sc a e = true := by
  cases ae with
  | Call fn as0 kws pos =>
    cases fn with
    | Name x p =>
      cases as0 with
      | nil => simp [mE] at h
      | cons c cs =>
        cases cs with
        | cons _ _ => cases kws <;> cases c <;> simp [mE] at h
        | nil =>
          cases kws with
          | cons _ _ => cases c <;> simp [mE] at h
          | nil =>
            cases c with
            | Call fn2 as kws2 pos2 =>
              cases fn2 with
              | Name y p2 =>
                cases kws2 with
                | cons _ _ => simp [mE] at h
                | nil =>
                  simp only [mE, Bool.and_eq_true, decide_eq_true_eq] at h
                  obtain ⟨⟨⟨⟨⟨⟨⟨rfl, rfl⟩, h1⟩, h2⟩, h3⟩, h4⟩, h5⟩, h6⟩ := h
                  match as, h5, h6 with
                  | [e], h5, h6 => exact ⟨p, p2, pos, pos2, e, rfl, h1, h2, h3, h4, h5, h6⟩
                  | [], _, h6 => simp at h6
                  | _ :: _ :: _, _, h6 => simp at h6
              | _ => simp [mE] at h
            | _ => simp [mE] at h
    | _ => simp [mE] at h
  | _ => simp [mE] at h
theorem mE_s2 {N : List Str} {G : Gm} {sc : Scope} {a : Ex} {ae : Expr} (h : mE N G sc (.s2 a) ae = true) : ∃ (p p2 pos : Pos) (e : Expr), ae = .Call (.Name ("sum" : Str) p) [e, .List [] p2] [] pos ∧
    gloB sc ("sum" : Str) = true ∧ G.blts.contains ("sum" : Str) = true ∧ noStars [e] = true ∧ mE N G sc a e = true := by
  cases ae with
  | Call fn as0 kws pos =>
    cases fn with
    | Name x p =>
      match as0, kws, h with
      | [y, c], [], h =>
        cases c with
        | List l p2 =>
          cases l with
          | nil =>
            simp only [mE, Bool.and_eq_true, decide_eq_true_eq] at h
            obtain ⟨⟨⟨⟨rfl, h1⟩, h2⟩, h3⟩, h4⟩ := h
            exact ⟨p, p2, pos, y, rfl, h1, h2, h3, h4⟩
          | cons _ _ => simp [mE] at h
        | _ => simp [mE] at h
      | [], k, h => cases k <;> simp [mE] at h
      | [_], k, h => cases k <;> simp [mE] at h
      | _ :: _ :: _ :: _, k, h => cases k <;> simp [mE] at h
      | [_, c], _ :: _, h => cases c <;> simp [mE] at h
    | _ => simp [mE] at h
  | _ => simp [mE] at h
theorem mE_lr1 {N : List Str} {G : Gm} {sc : Scope} {a : Ex} {ae : Expr} (h : mE N G sc (.lr1 a) ae = true) : ∃ (p p2 pos pos2 : Pos) (e : Expr), ae = .Call (.Name ("list" : Str) p) [.Call (.Name ("range" : Str) p2) [e] [] pos2] [] pos ∧
    gloB sc ("list" : Str) = true ∧ gloB sc ("range" : Str) = true ∧ G.blts.contains ("list" : Str) = true ∧ G.blts.contains ("range" : Str) = true ∧ noStars [e] = true ∧ mE N G sc a e = true := by
  cases ae with
  | Call fn as0 kws pos =>
    cases fn with
    | Name x p =>
      cases as0 with
      | nil => simp [mE] at h
      | cons c cs =>
        cases cs with
        | cons _ _ => cases kws <;> cases c <;> simp [mE] at h
        | nil =>
          cases kws with
          | cons _ _ => cases c <;> simp [mE] at h
          | nil =>
            cases c with
            | Call fn2 as kws2 pos2 =>
              cases fn2 with
              | Name y p2 =>
                cases kws2 with
                | cons _ _ => simp [mE] at h
                | nil =>
                  simp only [mE, Bool.and_eq_true, decide_eq_true_eq] at h
                  obtain ⟨⟨⟨⟨⟨⟨⟨rfl, rfl⟩, h1⟩, h2⟩, h3⟩, h4⟩, h5⟩, h6⟩ := h
                  match as, h5, h6 with
                  | [a], h5, h6 => exact ⟨p, p2, pos, pos2, a, rfl, h1, h2, h3, h4, h5, h6⟩
                  | [], _, h6 => cases h6
                  | _ :: _ :: _, _, h6 => cases h6
              | _ => simp [mE] at h
            | _ => simp [mE] at h
    | _ => simp [mE] at h
  | _ => simp [mE] at h
theorem mE_lr2 {N : List Str} {G : Gm} {sc : Scope} {a b : Ex} {ae : Expr} (h : mE N G sc (.lr2 a b) ae = true) : ∃ (p p2 pos pos2 : Pos) (e e2 : Expr), ae = .Call (.Name ("list" : Str) p) [.Call (.Name ("range" : Str) p2) [e, e2] [] pos2] [] pos ∧
    gloB sc ("list" : Str) = true ∧ gloB sc ("range" : Str) = true ∧ G.blts.contains ("list" : Str) = true ∧ G.blts.contains ("range" : Str) = true ∧ noStars [e, e2] = true ∧ mE N G sc a e = true ∧ mE N G sc b e2 = true := by
  cases ae with
  | Call fn as0 kws pos =>
    cases fn with
    | Name x p =>
      cases as0 with
      | nil => simp [mE] at h
      | cons c cs =>
        cases cs with
        | cons _ _ => cases kws <;> cases c <;> simp [mE] at h
        | nil =>
          cases kws with
          | cons _ _ => cases c <;> simp [mE] at h
          | nil =>
            cases c with
            | Call fn2 as kws2 pos2 =>
              cases fn2 with
              | Name y p2 =>
                cases kws2 with
                | cons _ _ => simp [mE] at h
                | nil =>
                  simp only [mE, Bool.and_eq_true, decide_eq_true_eq] at h
                  obtain ⟨⟨⟨⟨⟨⟨⟨rfl, rfl⟩, h1⟩, h2⟩, h3⟩, h4⟩, h5⟩, h6⟩ := h
                  match as, h5, h6 with
                  | [a, b], h5, h6 =>
                    have h6' := h6
                    simp only [Bool.and_eq_true] at h6'
                    exact ⟨p, p2, pos, pos2, a, b, rfl, h1, h2, h3, h4, h5, h6'.1, h6'.2⟩
                  | [], _, h6 => cases h6
                  | [_], _, h6 => cases h6
                  | _ :: _ :: _ :: _, _, h6 => cases h6
              | _ => simp [mE] at h
            | _ => simp [mE] at h
    | _ => simp [mE] at h
  | _ => simp [mE] at h
theorem mE_lz {N : List Str} {G : Gm} {sc : Scope} {es : Exs} {ae : Expr} (h : mE N G sc (.lz es) ae = true) : ∃ (p p2 pos pos2 : Pos) (a b : Expr), ae = .Call (.Name ("list" : Str) p) [.Call (.Name ("zip" : Str) p2) [a, b] [] pos2] [] pos ∧
    gloB sc ("list" : Str) = true ∧ gloB sc ("zip" : Str) = true ∧ G.blts.contains ("list" : Str) = true ∧ G.blts.contains ("zip" : Str) = true ∧ noStars [a, b] = true ∧ mEs N G sc es [a, b] = true := by
  cases ae with
  | Call fn as0 kws pos =>
    cases fn with
    | Name x p =>
      cases as0 with
      | nil => simp [mE] at h
      | cons c cs =>
        cases cs with
        | cons _ _ => cases kws <;> cases c <;> simp [mE] at h
        | nil =>
          cases kws with
          | cons _ _ => cases c <;> simp [mE] at h
          | nil =>
            cases c with
            | Call fn2 as kws2 pos2 =>
              cases fn2 with
              | Name y p2 =>
                cases kws2 with
                | cons _ _ => simp [mE] at h
                | nil =>
                  simp only [mE, Bool.and_eq_true, decide_eq_true_eq] at h
                  obtain ⟨⟨⟨⟨⟨⟨⟨⟨rfl, rfl⟩, h1⟩, h2⟩, h3⟩, h4⟩, h5⟩, h7⟩, h6⟩ := h
                  match as, h5, h6, h7 with
                  | [a, b], h5, h6, _ => exact ⟨p, p2, pos, pos2, a, b, rfl, h1, h2, h3, h4, h5, h6⟩
              | _ => simp [mE] at h
            | _ => simp [mE] at h
    | _ => simp [mE] at h
  | _ => simp [mE] at h
theorem mE_dz {N : List Str} {G : Gm} {sc : Scope} {es : Exs} {ae : Expr} (h : mE N G sc (.dz es) ae = true) : ∃ (p p2 pos pos2 : Pos) (a b : Expr), ae = .Call (.Name ("dict" : Str) p) [.Call (.Name ("zip" : Str) p2) [a, b] [] pos2] [] pos ∧
    gloB sc ("dict" : Str) = true ∧ gloB sc ("zip" : Str) = true ∧ G.blts.contains ("dict" : Str) = true ∧ G.blts.contains ("zip" : Str) = true ∧ noStars [a, b] = true ∧ mEs N G sc es [a, b] = true := by
  cases ae with
  | Call fn as0 kws pos =>
    cases fn with
    | Name x p =>
      cases as0 with
      | nil => simp [mE] at h
      | cons c cs =>
        cases cs with
        | cons _ _ => cases kws <;> cases c <;> simp [mE] at h
        | nil =>
          cases kws with
          | cons _ _ => cases c <;> simp [mE] at h
          | nil =>
            cases c with
            | Call fn2 as kws2 pos2 =>
              cases fn2 with
              | Name y p2 =>
                cases kws2 with
                | cons _ _ => simp [mE] at h
                | nil =>
                  simp only [mE, Bool.and_eq_true, decide_eq_true_eq] at h
                  obtain ⟨⟨⟨⟨⟨⟨⟨⟨rfl, rfl⟩, h1⟩, h2⟩, h3⟩, h4⟩, h5⟩, h7⟩, h6⟩ := h
                  match as, h5, h6, h7 with
                  | [a, b], h5, h6, _ => exact ⟨p, p2, pos, pos2, a, b, rfl, h1, h2, h3, h4, h5, h6⟩
              | _ => simp [mE] at h
            | _ => simp [mE] at h
    | _ => simp [mE] at h
  | _ => simp [mE] at h
theorem mE_boolop {N : List Str} {G : Gm} {sc : Scope} {e : Ex} {op : BoolOp} {vs : List Expr} {pos : Pos} (h : mE N G sc e (.BoolOp op vs pos) = true) : (∃ a b, e = .an a b) ∨ (∃ a b, e = .orr a b) := by
  cases e with
  | an a b => exact .inl ⟨a, b, rfl⟩
  | orr a b => exact .inr ⟨a, b, rfl⟩
  | fzn a => exact absurd (mE_fzn h).1 (by simp [notBO])
  | k c => simp [mE, mK] at h
  | isx i al ts => simp [mE, mIx] at h
  | _ => simp [mE] at h
def isT (e : Expr) : Prop := ∀ op vs pos, e ≠ .BoolOp op vs pos

mutual
theorem sE : ∀ (e : Ex) {G : Gm} {C : Call} {k : Nat} {X : Cx} {own : Scope} (g : Gd G C k X own) (ae : Expr), mE X.N G X.env.scope e ae = true → PE X ae (tE C X.K e)
  | .k c, G, C, k, X, own, g, ae, h => PE.imp (sK g (by simpa [mE] using h)) fun _ _ _ q => core_k q
  | .v i, G, C, k, X, own, g, ae, h => by
    cases ae with
    | Name x pos => exact PE.imp (mV_of (by simpa [mE] using h)) fun _ _ _ q => core_v q
    | _ => simp [mE] at h
  | .mv i, G, C, k, X, own, g, ae, h => by
    cases ae with
    | Name x pos => exact PE.imp (mV_of (by simpa [mE] using h)) fun _ _ _ q => core_mv q
    | _ => simp [mE] at h
  | .bw i, G, C, k, X, own, g, ae, h => by
    cases ae with
    | Name x pos => exact PE.imp (mV_of (by simpa [mE] using h)) fun _ _ _ q => core_bw q
    | _ => simp [mE] at h
  | .ln i, G, C, k, X, own, g, ae, h => by
    cases ae with
    | Name x pos => exact PE.imp (mV_of (by simpa [mE] using h)) fun _ _ _ q => core_ln q
    | _ => simp [mE] at h
  | .tup es, G, C, k, X, own, g, ae, h => by
    cases ae with
    | Tuple as kk pos => exact PE.imp (pe_tup (sEs es g as (by simpa [mE] using h))) fun _ _ _ q => core_tup q
    | _ => simp [mE] at h
  | .lst es, G, C, k, X, own, g, ae, h => by
    cases ae with
    | List as pos => exact PE.imp (pe_lst (sEs es g as (by simpa [mE] using h))) fun _ _ _ q => core_lst q
    | _ => simp [mE] at h
  | .dct ks es, G, C, k, X, own, g, ae, h => by
    cases ae with
    | Dict keys values pos =>
      simp only [mE, Bool.and_eq_true, decide_eq_true_eq] at h
      obtain ⟨⟨⟨h1, h2⟩, h3⟩, h4⟩ := h
      cases keys with
      | nil =>
        cases values with
        | nil =>
          cases ks with
          | nil =>
            cases es with
            | nil => exact PE.imp pe_dnewK fun _ _ _ q => core_dct0 q
            | cons e es => simp [mEs] at h4
          | cons c cs => simp [mKs] at h1
        | cons v vs => simp at h2
      | cons k0 kr => exact PE.imp (pe_disp (sPP es g ks (k0 :: kr) values h1 h4 h2) (mKs_some h1) h2 (fun z => nomatch z) h3) fun _ _ _ q => core_dct q
    | _ => simp [mE] at h
  | .dk kx e, G, C, k, X, own, g, ae, h => by
    cases ae with
    | Dict keys values pos =>
      match keys, values, h with
      | [some x], [y], h =>
        simp only [mE, Bool.and_eq_true] at h
        exact PE.imp (pe_disp (pps_cons (sE kx g x h.1) (sE e g y h.2) pps_nil) rfl rfl (fun z => nomatch z) (by show 1 ≤ 15; decide)) fun _ _ _ q => core_dk q
      | [], _, h => simp [mE] at h
      | [none], _, h => simp [mE] at h
      | [some _], [], h => simp [mE] at h
      | [some _], _ :: _ :: _, h => simp [mE] at h
      | _ :: _ :: _, _, h => simp [mE] at h
    | _ => simp [mE, mK] at h
  | .dn2 ea eb c d, G, C, k, X, own, g, ae, h => by
    cases ae with
    | Dict keys values pos =>
      match keys, values, h with
      | [some x, some y], [u, v], h =>
        simp only [mE, Bool.and_eq_true] at h
        obtain ⟨⟨⟨h1, h2⟩, h3⟩, h4⟩ := h
        exact PE.imp (pe_dispN g.units (pps_cons (sE ea g x h1) (sK g h3) (pps_cons (sE eb g y h2) (sK g h4) pps_nil)) rfl rfl (fun z => nomatch z) (by show 2 ≤ 15; decide)) fun _ _ _ q => core_dn2 q
      | [], _, h => simp [mE] at h
      | [_], _, h => simp [mE] at h
      | none :: _ :: _, _, h => simp [mE] at h
      | some _ :: none :: _, _, h => simp [mE] at h
      | [some _, some _], [], h => simp [mE] at h
      | [some _, some _], [_], h => simp [mE] at h
      | [some _, some _], _ :: _ :: _ :: _, h => simp [mE] at h
      | some _ :: some _ :: _ :: _, _, h => simp [mE] at h
    | _ => simp [mE, mK] at h
  | .bin o a b, G, C, k, X, own, g, ae, h => by
    cases ae with
    | BinOp x op y pos =>
      simp only [mE, Bool.and_eq_true, decide_eq_true_eq] at h
      obtain ⟨⟨rfl, h1⟩, h2⟩ := h
      exact PE.imp (pe_op (op_binD o) (sE a g x h1) (sE b g y h2)) fun _ _ _ q => core_bin q
    | _ => simp [mE] at h
  | .neg a, G, C, k, X, own, g, ae, h => by
    cases ae with
    | UnaryOp op x pos =>
      cases op with
      | USub => exact PE.imp (pe_un un_neg (sE a g x (by simpa [mE] using h))) fun _ _ _ q => core_neg q
      | _ => simp [mE] at h
    | _ => simp [mE] at h
  | .nt a, G, C, k, X, own, g, ae, h => by
    cases ae with
    | UnaryOp op x pos =>
      cases op with
      | Not => exact PE.imp (pe_not (sE a g x (by simpa [mE] using h))) fun _ _ _ q => core_nt q
      | _ => simp [mE] at h
    | _ => simp [mE] at h
  | .cmp o a b, G, C, k, X, own, g, ae, h => by
    cases ae with
    | Compare x ops ys pos =>
      match ops, ys, h with
      | [op], [y], h =>
        simp only [mE, Bool.and_eq_true, decide_eq_true_eq] at h
        obtain ⟨⟨⟨rfl, h0⟩, h1⟩, h2⟩ := h
        exact PE.imp (pe_cmpR (op_cmpD o g.units) (sE a g x h1) (sE b g y h2) (notSet_mark h0)) fun _ _ _ q => core_cmp q
      | [], _, h => simp [mE] at h
      | [_], [], h => simp [mE] at h
      | [_], _ :: _ :: _, h => simp [mE] at h
      | _ :: _ :: _, _, h => simp [mE] at h
    | _ => simp [mE] at h
  | .ch o p a b c, G, C, k, X, own, g, ae, h => by
    cases ae with
    | Compare x ops ys pos =>
      match ops, ys, h with
      | [op, op'], [y, z], h =>
        simp only [mE, Bool.and_eq_true, decide_eq_true_eq] at h
        obtain ⟨⟨⟨⟨⟨rfl, rfl⟩, h0⟩, h1⟩, h2⟩, h3⟩ := h
        exact PE.imp (pe_chain (op_cmpD o g.units) (op_cmpD p g.units) (sE a g x h1) (sE b g y h2) (sE c g z h3) (by show behindInMarks _ z = false; exact notSet_mark h0)) fun _ _ _ q => core_ch q
      | [], _, h => simp [mE] at h
      | [_], _, h => simp [mE] at h
      | [_, _], [], h => simp [mE] at h
      | [_, _], [_], h => simp [mE] at h
      | [_, _], _ :: _ :: _ :: _, h => simp [mE] at h
      | _ :: _ :: _ :: _, _, h => simp [mE] at h
    | _ => simp [mE] at h
  | .an a b, G, C, k, X, own, g, ae, h => by
    cases ae with
    | BoolOp op vs pos =>
      match op, vs, h with
      | .And, [x, y], h =>
        simp only [mE, Bool.and_eq_true] at h
        exact PE.imp (pe_and (sE a g x h.1) (pe_one (sE b g y h.2))) fun _ _ _ q => core_an q
      | .And, x :: y :: z :: ys, h =>
        simp only [mE, Bool.and_eq_true] at h
        exact PE.imp (pe_and (sE a g x h.1) (sE b g _ h.2)) fun _ _ _ q => core_an q
      | .And, [], h => simp [mE] at h
      | .And, [_], h => simp [mE] at h
      | .Or, _, h => simp [mE] at h
    | _ => simp [mE] at h
  | .orr a b, G, C, k, X, own, g, ae, h => by
    cases ae with
    | BoolOp op vs pos =>
      match op, vs, h with
      | .Or, [x, y], h =>
        simp only [mE, Bool.and_eq_true] at h
        exact PE.imp (pe_or (sE a g x h.1) (pe_one (sE b g y h.2))) fun _ _ _ q => core_orr q
      | .Or, x :: y :: z :: ys, h =>
        simp only [mE, Bool.and_eq_true] at h
        exact PE.imp (pe_or (sE a g x h.1) (sE b g _ h.2)) fun _ _ _ q => core_orr q
      | .Or, [], h => simp [mE] at h
      | .Or, [_], h => simp [mE] at h
      | .And, _, h => simp [mE] at h
    | _ => simp [mE] at h
  | .ix a b, G, C, k, X, own, g, ae, h => by
    cases ae with
    | Subscript x y pos =>
      simp only [mE, Bool.and_eq_true, Bool.not_eq_true'] at h
      exact PE.imp (PE.orr (pe_ix (ix_idxD g.units) (sE a g x h.1.2) (sE b g y h.2) (plain_ix h.1.1)) (pe_dget (by have := g.units; omega) (sE a g x h.1.2) (sE b g y h.2) (plain_ix h.1.1))) fun _ _ _ q => core_ix q
    | _ => simp [mE] at h
  | .rep a b, G, C, k, X, own, g, ae, h => by
    cases ae with
    | BinOp x op y pos =>
      simp only [mE, Bool.and_eq_true, decide_eq_true_eq] at h
      obtain ⟨⟨rfl, h1⟩, h2⟩ := h
      exact PE.imp (pe_op op_repD (sE a g x h1) (sE b g y h2)) fun _ _ _ q => core_rep q
    | _ => simp [mE] at h
  | .me m a es, G, C, k, X, own, g, ae, h => by
    cases ae with
    | Call fn as kws pos =>
      cases fn with
      | Attribute o name apos =>
        cases kws with
        | cons kw kws => simp [mE] at h
        | nil =>
          simp only [mE, Bool.and_eq_true, decide_eq_true_eq] at h
          obtain ⟨⟨⟨⟨⟨⟨⟨h0, rfl⟩, h3⟩, h4⟩, h5⟩, h7⟩, h1⟩, h6⟩ := h
          have hA := sEs es g as h6
          have hb : attributeBase o (meN m) X.env (eval o X.env) = eval o X.env := base_bare h0
          cases as with
          | nil => simp at h7
          | cons b as =>
            obtain ⟨n1, n2⟩ := noStars_tail h4
            exact PE.imp (pe_bm PySem.F.plainAttrs_list (slot_me m) (ty_me m) (mt_me m g.units) (sE a g o h1) hA hb (by rw [star_all h4]; simp only [Bool.true_and, decide_eq_true_eq, Bool.and_eq_true, List.length_cons, List.length_nil, List.isEmpty_nil, if_true] at h5 ⊢; exact ⟨rfl, by omega⟩) h3 (star_cons n1) (star_none n2)) fun _ _ _ q => core_me q
      | _ => simp [mE] at h
    | _ => simp [mE] at h
  | .rv a, G, C, k, X, own, g, ae, h => by
    cases ae with
    | Subscript x y pos =>
      simp only [mE, Bool.and_eq_true] at h
      obtain ⟨h1, h2⟩ := h
      unfold isRev at h1
      split at h1
      · rename_i i kk p1 p2 p3
        have hi : i = 1 := of_decide_eq_true h1
        subst hi
        exact PE.imp (pe_revA (sE a g x h2)) fun _ _ _ q => core_rv q
      · cases h1
    | _ => simp [mE] at h
  | .sl a lo hi, G, C, k, X, own, g, ae, h => by
    cases ae with
    | Subscript x y pos =>
      cases y with
      | Slice l u st p2 =>
        cases st with
        | some st => simp [mE] at h
        | none =>
          simp only [mE, Bool.and_eq_true] at h
          have hl : PO X l (tPO C X.K lo) := by
            unfold tPO
            cases l with
            | none =>
              rw [if_pos h.1.2]
              exact po_none
            | some l =>
              have h2 := h.1.2
              simp only [Bool.and_eq_true, Bool.not_eq_true'] at h2
              rw [if_neg (by rw [h2.1]; decide)]
              exact po_some (sE lo g l h2.2)
          have hu : PO X u (tPO C X.K hi) := by
            unfold tPO
            cases u with
            | none =>
              rw [if_pos h.2]
              exact po_none
            | some u =>
              have h2 := h.2
              simp only [Bool.and_eq_true, Bool.not_eq_true'] at h2
              rw [if_neg (by rw [h2.1]; decide)]
              exact po_some (sE hi g u h2.2)
          exact PE.imp (pe_slice sl_sliceD (sE a g x h.1.1) hl hu) fun _ _ _ q => core_sl q
      | _ => simp [mE] at h
    | _ => simp [mE] at h
  | .call f es, G, C, k, X, own, g, ae, h => by
    cases ae with
    | Call fn as kws pos =>
      cases fn with
      | Name x p =>
        cases kws with
        | cons kw kws => simp [mE] at h
        | nil =>
          simp only [mE, Bool.and_eq_true, decide_eq_true_eq] at h
          obtain ⟨⟨⟨⟨h1, h2⟩, h3⟩, h4⟩, h5⟩ := h
          obtain ⟨a, fd, ps, m1, m2, m3, m4, _⟩ := g.funs x f h1
          have hA := sEs es g as h5
          cases as with
          | nil =>
            refine PE.imp (pe_callGx0 m4 g.rm g.gd (gloB_of h2) m1 m2 m3 (nmOk_of h3).1) fun _ _ _ q => ?_
            cases es with
            | nil => exact core_nil (core_call q)
            | cons e es => simp [mEs] at h5
          | cons a as => exact PE.imp (pe_callGx m4 g.rm g.gd (gloB_of h2) m1 m2 m3 hA (nmOk_of h3).1 h4) fun _ _ _ q => core_call q
      | _ => simp [mE] at h
    | _ => simp [mE] at h
  | .bt b es, G, C, k, X, own, g, ae, h => by
    cases ae with
    | Call fn as kws pos =>
      cases fn with
      | Name x p =>
        cases kws with
        | cons kw kws => simp [mE] at h
        | nil =>
          simp only [mE, Bool.and_eq_true, decide_eq_true_eq] at h
          obtain ⟨⟨⟨⟨⟨rfl, h2⟩, h3⟩, h4⟩, h5⟩, h6⟩ := h
          have hA := sEs es g as h6
          cases as with
          | nil => simp at h5
          | cons a as => exact PE.imp (core_callB g (btV_kind b) h2 h3 hA h4) fun _ _ _ q => core_bt q
      | _ => simp [mE] at h
    | _ => simp [mE] at h
  | .isi a ts, G, C, k, X, own, g, ae, h => by
    cases ae with
    | Call fn as kws pos =>
      cases fn with
      | Name x p =>
        match as, kws, h with
        | [y, t], [], h =>
          simp only [mE, Bool.and_eq_true, decide_eq_true_eq] at h
          obtain ⟨⟨⟨⟨⟨rfl, h2⟩, h3⟩, h4⟩, h5⟩, h6⟩ := h
          have hA := sE a g y h5
          cases t with
          | Tuple es kk tp =>
            simp only [Bool.and_eq_true, decide_eq_true_eq] at h6
            obtain ⟨h6, h7⟩ := h6
            refine PE.imp (pe_callB call_isiTY (gloB_of h2) (g.blts _ h3) boot_isi (pa_cons hA (pa_cons (pe_tup (sTys g h6.1 h6.2)) pa_nil rfl) (star_cons h4)) (by decide) (by decide) (star_cons h4) rfl) fun σ H Q q => ?_
            obtain ⟨F, r, w, r', wd, he, q⟩ := core_isi q
            refine ⟨F, r, w, r', wd, he, fun v F1 H1 p => ?_⟩
            obtain ⟨d, hd, q⟩ := q v F1 H1 p
            have rpd := hd.rp p.wd.le
            refine ⟨by rw [List.length_map, ← SZ_eq]; exact Nat.le_trans (Nat.le_of_lt h7) (by decide), fun pp hp => ⟨v, pp, _, _, _, _, rfl, upd_same, pairs_ty ts, rp_tyx (Rp.mono (same_up hp) _ _ rpd), kit_any d ts, q F1 _ (Fr.refl.up hp) (p.wd.le.trans (same_up hp))⟩⟩
          | Name z p2 =>
            cases ts with
            | nil => simp at h6
            | cons u ts =>
              cases ts with
              | cons u2 ts => simp at h6
              | nil =>
                refine PE.imp (pe_callB call_isiY (gloB_of h2) (g.blts _ h3) boot_isi (pa_cons hA (pa_cons (sTy g h6) pa_nil rfl) (star_cons h4)) (by decide) (by decide) (star_cons h4) rfl) fun σ H Q q => ?_
                obtain ⟨F, r, w, r', wd, he, q⟩ := core_isi q
                refine ⟨F, r, w, r', wd, he, fun v F1 H1 p => ?_⟩
                obtain ⟨d, hd, q⟩ := q v F1 H1 p
                refine ⟨v, _, _, _, isTy d u, rfl, .ty _, rp_tyx (hd.rp p.wd.le), kit_ty (kit_is d u), ?_⟩
                have := q F1 H1 Fr.refl p.wd.le
                simpa using this
          | _ => simp at h6
        | [], _, h => simp [mE] at h
        | [_], _, h => simp [mE] at h
        | _ :: _ :: _ :: _, _, h => simp [mE] at h
        | [_, _], _ :: _, h => simp [mE] at h
      | _ => simp [mE] at h
    | _ => simp [mE] at h
  | .mu m i es, G, C, k, X, own, g, ae, h => by
    cases ae with
    | Call fn as kws pos =>
      cases fn with
      | Attribute o name apos =>
        cases o with
        | Name x p =>
          cases kws with
          | cons kw kws => simp [mE] at h
          | nil =>
            simp only [mE, Bool.and_eq_true, decide_eq_true_eq] at h
            obtain ⟨⟨⟨⟨⟨h1, rfl⟩, h3⟩, h4⟩, h5⟩, h6⟩ := h
            have hA := sEs es g as h6
            cases as with
            | nil =>
              refine PE.imp (pe_bm0 PySem.F.plainAttrs_list (slot_mu m) (ty_mu m) (mt_mu m) (mV_of h1) rfl h3) fun _ _ _ q => ?_
              cases es with
              | nil =>
                obtain ⟨v, e1, ty, q⟩ := core_mu q
                exact ⟨v, e1, ty, core_nil q⟩
              | cons e es => simp [mEs] at h6
            | cons a as =>
              obtain ⟨n1, n2⟩ := noStars_tail h4
              exact PE.imp (pe_bm PySem.F.plainAttrs_list (slot_mu m) (ty_mu m) (mt_mu m) (mV_of h1) hA rfl (by rw [star_all h4]; simp only [Bool.true_and, decide_eq_true_eq, Bool.and_eq_true, List.length_cons, List.length_nil, List.isEmpty_nil, if_true] at h5 ⊢; exact ⟨rfl, by omega⟩) h3 (star_cons n1) (star_none n2)) fun _ _ _ q => core_mu q
        | _ => simp [mE] at h
      | _ => simp [mE] at h
    | _ => simp [mE] at h
  | .lc t it c e ow, G, C, k, X, own, g, ae, h => by
    cases ae with
    | ListComp elt gens scope pos =>
      match gens, h with
      | [⟨tg, iter, ifs, z⟩], h =>
          simp only [mE, Bool.and_eq_true, decide_eq_true_eq] at h
          obtain ⟨⟨⟨⟨⟨⟨⟨rfl, h1⟩, h2⟩, h3⟩, h4⟩, h5⟩, h6⟩, h7⟩ := h
          have ok := blkOk_by h1
          have hst : ∀ i ∈ t.st, i ∈ ow := fun i hi => by
            have := List.all_eq_true.mp h2 i hi
            simpa using this
          have own2 : (ownN X.N ow).map (·.2) = ow := by unfold ownN; rw [List.map_map]; exact List.map_id ow
          have gb := fun (s : Shared) (H : Hp) (A : Addr) (cl : List (Str × Addr)) (fp : List Addr) => Gd.blk g s H scope cl A fp ok.kind
          have hI := sI it g tg iter h5
          have hG : ∀ (s : Shared) (H : Hp) (A : Addr) (cl : List (Str × Addr)) (fp : List Addr), PG (X.blk s H scope (compEnvC scope cl A X.env) fp) tg (tG X.K t) := fun s H A cl fp => (sG (gb s H A cl fp) t).1 tg h3
          have hE : ∀ (s : Shared) (H : Hp) (A : Addr) (cl : List (Str × Addr)) (fp : List Addr), PE (X.blk s H scope (compEnvC scope cl A X.env) fp) elt (tE C X.K e) := fun s H A cl fp => sE e (gb s H A cl fp) elt h7
          match ifs, h6 with
          | [], h6 =>
            have z := pe_lc (elt := elt) (pos := pos) (tt := tYes) g.calm g.nd hI ok hG (fun _ _ _ _ _ => pts_nil) hE (notSet_fold h4)
            rw [own2] at z
            exact PE.imp z fun σ H Q q => core_lc hst (fun σ H Q q => yes_of h6 q) q
          | [x], h6 =>
            have hT : ∀ (s : Shared) (H : Hp) (A : Addr) (cl : List (Str × Addr)) (fp : List Addr), PTs (X.blk s H scope (compEnvC scope cl A X.env) fp) [x] (tT C X.K c) := fun s H A cl fp => pts_one (sT c (gb s H A cl fp) x h6).1
            have z := pe_lc (elt := elt) (pos := pos) g.calm g.nd hI ok hG hT hE (notSet_fold h4)
            rw [own2] at z
            exact PE.imp z fun σ H Q q => core_lc hst (fun σ H Q q => q) q
          | _ :: _ :: _, h6 => simp at h6
      | [], h => simp [mE] at h
      | _ :: _ :: _, h => simp [mE] at h
    | _ => simp [mE] at h
  | .fzn a, G, C, k, X, own, g, ae, h => PE.imp (sE a g ae (mE_fzn h).2) fun _ _ _ q => core_fzn q
  | .dz es, G, C, k, X, own, g, ae, h => by
    obtain ⟨p, p2, pos, pos2, a, b, rfl, h1, h2, h3, h4, h5, h6⟩ := mE_dz h
    have hA := sEs es g [a, b] h6
    obtain ⟨n1, n2⟩ := noStars_tail h5
    exact PE.imp (pe_dz g.calm g.units (gloB_of h1) (g.blts _ h3) (gloB_of h2) (g.blts _ h4) hA rfl rfl (star_cons n1) (star_none n2)) fun σ H Q q => core_dz (mEs_len h6) q
  | .lz es, G, C, k, X, own, g, ae, h => by
    obtain ⟨p, p2, pos, pos2, a, b, rfl, h1, h2, h3, h4, h5, h6⟩ := mE_lz h
    have hA := sEs es g [a, b] h6
    obtain ⟨n1, n2⟩ := noStars_tail h5
    exact PE.imp (pe_lz g.calm (gloB_of h1) (g.blts _ h3) (gloB_of h2) (g.blts _ h4) hA rfl rfl (star_cons n1) (star_none n2)) fun σ H Q q => core_lz (mEs_len h6) q
  | .xv i, G, C, k, X, own, g, ae, h => by
    cases ae with
    | Name x pos => exact PE.imp (mV_of (by simpa [mE] using h)) fun _ _ _ q => core_xv q
    | _ => simp [mE] at h
  | .isx i al ts, G, C, k, X, own, g, ae, h => sIx g (mE_isx h).1
  | .xnn i, G, C, k, X, own, g, ae, h => by
    obtain ⟨x, px, y, pos, rfl, h0, h1, h2⟩ := mE_xnn h
    exact PE.imp (pe_cmpR op_notN (mV_of h1) (sK g h2) (notSet_mark h0)) fun _ _ _ q => core_xnn q
  | .ss a, G, C, k, X, own, g, ae, h => by
    obtain ⟨p, p2, pos, pos2, e, rfl, h1, h2, h3, h4, h5, h6⟩ := mE_ss h
    exact PE.imp (pe_callB (call_sortedSetN g.calm) (gloB_of h1) (g.blts _ h3) (by decide +kernel : bootBuiltins "sorted" = some (.builtin "sorted")) (pa_cons (pe_callTy (call_setI g.calm) (gloB_of h2) (g.blts _ h4) (by decide +kernel : bootBuiltins "set" = some (.type "set")) (pa_cons (sE a g e h6) pa_nil (star_cons (noStars_tail h5).1)) (by decide) (by decide) (star_cons (noStars_tail h5).1) rfl) pa_nil rfl) (by decide) (by decide) rfl rfl) fun σ H Q q => core_ss q
  | .s2 a, G, C, k, X, own, g, ae, h => by
    obtain ⟨p, p2, pos, e, rfl, h1, h2, h3, h4⟩ := mE_s2 h
    exact PE.imp (pe_callB (call_sum2 g.calm) (gloB_of h1) (g.blts _ h2) (by decide +kernel : bootBuiltins "sum" = some (.builtin "sum")) (pa_cons (sE a g e h4) (pa_cons (pe_lst pa_nil) pa_nil rfl) (star_cons (noStars_tail h3).1)) (by decide) (by decide) (star_cons (noStars_tail h3).1) rfl) fun σ H Q q => core_s2 q
  | .lr1 a, G, C, k, X, own, g, ae, h => by
    obtain ⟨p, p2, pos, pos2, e, rfl, h1, h2, h3, h4, h5, h6⟩ := mE_lr1 h
    exact PE.imp (pe_listRg g.calm (gloB_of h1) (g.blts _ h3) (prg_1 (gloB_of h2) (g.blts _ h4) (sE a g e h6) (star_cons (noStars_tail h5).1)) rfl) fun σ H Q q => core_lr1 q
  | .lr2 a b, G, C, k, X, own, g, ae, h => by
    obtain ⟨p, p2, pos, pos2, e, e2, rfl, h1, h2, h3, h4, h5, h6, h7⟩ := mE_lr2 h
    obtain ⟨n1, n2⟩ := noStars_tail h5
    exact PE.imp (pe_listRg g.calm (gloB_of h1) (g.blts _ h3) (prg_2 (gloB_of h2) (g.blts _ h4) (sE a g e h6) (sE b g e2 h7) (star_cons n1) (star_cons (noStars_tail n2).1) (by rw [star_cons (noStars_tail n2).1]; rfl)) rfl) fun σ H Q q => core_lr2 q
theorem sT : ∀ (e : Ex) {G : Gm} {C : Call} {k : Nat} {X : Cx} {own : Scope} (g : Gd G C k X own) (ae : Expr), mE X.N G X.env.scope e ae = true → PT X ae (tT C X.K e) ∧ (∀ op vs pos, ae = .BoolOp op vs pos → PW X ae (tT C X.K e))
  | .k c, G, C, k, X, own, g, ae, h => pt_plain (sE (.k c) g ae h) (by cases ae <;> first | rfl | simp [mE, mK] at h)
  | .v i, G, C, k, X, own, g, ae, h => pt_plain (sE (.v i) g ae h) (by cases ae <;> first | rfl | simp [mE, mK] at h)
  | .mv i, G, C, k, X, own, g, ae, h => pt_plain (sE (.mv i) g ae h) (by cases ae <;> first | rfl | simp [mE, mK] at h)
  | .bw i, G, C, k, X, own, g, ae, h => pt_plain (sE (.bw i) g ae h) (by cases ae <;> first | rfl | simp [mE, mK] at h)
  | .ln i, G, C, k, X, own, g, ae, h => pt_plain (sE (.ln i) g ae h) (by cases ae <;> first | rfl | simp [mE, mK] at h)
  | .tup es, G, C, k, X, own, g, ae, h => pt_plain (sE (.tup es) g ae h) (by cases ae <;> first | rfl | simp [mE, mK] at h)
  | .lst es, G, C, k, X, own, g, ae, h => pt_plain (sE (.lst es) g ae h) (by cases ae <;> first | rfl | simp [mE, mK] at h)
  | .dct ks es, G, C, k, X, own, g, ae, h => pt_plain (sE (.dct ks es) g ae h) (by cases ae <;> first | rfl | simp [mE, mK] at h)
  | .dk kx e, G, C, k, X, own, g, ae, h => pt_plain (sE (.dk kx e) g ae h) (by cases ae <;> first | rfl | simp [mE, mK] at h)
  | .dn2 ea eb c d, G, C, k, X, own, g, ae, h => pt_plain (sE (.dn2 ea eb c d) g ae h) (by cases ae <;> first | rfl | simp [mE, mK] at h)
  | .bin o a b, G, C, k, X, own, g, ae, h => pt_plain (sE (.bin o a b) g ae h) (by cases ae <;> first | rfl | simp [mE, mK] at h)
  | .ix a b, G, C, k, X, own, g, ae, h => pt_plain (sE (.ix a b) g ae h) (by cases ae <;> first | rfl | simp [mE, mK] at h)
  | .sl a lo hi, G, C, k, X, own, g, ae, h => pt_plain (sE (.sl a lo hi) g ae h) (by cases ae <;> first | rfl | simp [mE, mK] at h)
  | .rep a b, G, C, k, X, own, g, ae, h => pt_plain (sE (.rep a b) g ae h) (by cases ae <;> first | rfl | simp [mE, mK] at h)
  | .me m a es, G, C, k, X, own, g, ae, h => pt_plain (sE (.me m a es) g ae h) (by cases ae <;> first | rfl | simp [mE, mK] at h)
  | .rv a, G, C, k, X, own, g, ae, h => pt_plain (sE (.rv a) g ae h) (by cases ae <;> first | rfl | simp [mE, mK] at h)
  | .call f es, G, C, k, X, own, g, ae, h => pt_plain (sE (.call f es) g ae h) (by cases ae <;> first | rfl | simp [mE, mK] at h)
  | .bt b es, G, C, k, X, own, g, ae, h => pt_plain (sE (.bt b es) g ae h) (by cases ae <;> first | rfl | simp [mE, mK] at h)
  | .isi a ts, G, C, k, X, own, g, ae, h => pt_plain (sE (.isi a ts) g ae h) (by cases ae <;> first | rfl | simp [mE, mK] at h)
  | .mu m i es, G, C, k, X, own, g, ae, h => pt_plain (sE (.mu m i es) g ae h) (by cases ae <;> first | rfl | simp [mE, mK] at h)
  | .lc t it c e ow, G, C, k, X, own, g, ae, h => pt_plain (sE (.lc t it c e ow) g ae h) (by cases ae <;> first | rfl | simp [mE, mK] at h)
  | .fzn a, G, C, k, X, own, g, ae, h => by
    have h2 := mE_fzn h
    exact ⟨PT.imp (sT a g ae h2.2).1 fun _ _ _ q => core_fznT q, fun op vs pos e => by subst e; simp [notBO] at h2⟩
  | .dz es, G, C, k, X, own, g, ae, h => pt_plain (sE (.dz es) g ae h) (by cases ae <;> first | rfl | simp [mE, mK] at h)
  | .lz es, G, C, k, X, own, g, ae, h => pt_plain (sE (.lz es) g ae h) (by cases ae <;> first | rfl | simp [mE, mK] at h)
  | .xv i, G, C, k, X, own, g, ae, h => pt_plain (sE (.xv i) g ae h) (by cases ae <;> first | rfl | simp [mE, mK] at h)
  | .isx i al ts, G, C, k, X, own, g, ae, h => pt_plain (sIx g (mE_isx h).1) (mE_isx h).2
  | .xnn i, G, C, k, X, own, g, ae, h => by
    obtain ⟨x, px, y, pos, rfl, h0, h1, h2⟩ := mE_xnn h
    exact ⟨PT.imp (pt_cmpR op_notN (mV_of h1) (sK g h2) (notSet_mark h0)) fun _ _ _ q => core_xnn (tT_val q), fun op vs pos e => nomatch e⟩
  | .ss a, G, C, k, X, own, g, ae, h => pt_plain (sE (.ss a) g ae h) (by cases ae <;> first | rfl | simp [mE, mK] at h)
  | .s2 a, G, C, k, X, own, g, ae, h => pt_plain (sE (.s2 a) g ae h) (by cases ae <;> first | rfl | simp [mE, mK] at h)
  | .lr1 a, G, C, k, X, own, g, ae, h => pt_plain (sE (.lr1 a) g ae h) (by cases ae <;> first | rfl | simp [mE, mK] at h)
  | .lr2 a b, G, C, k, X, own, g, ae, h => pt_plain (sE (.lr2 a b) g ae h) (by cases ae <;> first | rfl | simp [mE, mK] at h)
  | .neg a, G, C, k, X, own, g, ae, h => pt_plain (sE (.neg a) g ae h) (by
    cases ae with
    | UnaryOp op x pos => cases op <;> first | rfl | simp [mE] at h
    | _ => first | rfl | simp [mE] at h)
  | .nt a, G, C, k, X, own, g, ae, h => by
    cases ae with
    | UnaryOp op x pos =>
      cases op with
      | Not => exact ⟨PT.imp (pt_not (sT a g x (by simpa [mE] using h)).1) fun _ _ _ q => core_ntT q, fun op vs pos e => nomatch e⟩
      | _ => simp [mE] at h
    | _ => simp [mE] at h
  | .cmp o a b, G, C, k, X, own, g, ae, h => by
    cases ae with
    | Compare x ops ys pos =>
      match ops, ys, h with
      | [op], [y], h =>
        simp only [mE, Bool.and_eq_true, decide_eq_true_eq] at h
        obtain ⟨⟨⟨rfl, h0⟩, h1⟩, h2⟩ := h
        exact ⟨PT.imp (pt_cmpR (op_cmpD o g.units) (sE a g x h1) (sE b g y h2) (notSet_mark h0)) fun _ _ _ q => core_cmp (tT_val q), fun op vs pos e => nomatch e⟩
      | [], _, h => simp [mE] at h
      | [_], [], h => simp [mE] at h
      | [_], _ :: _ :: _, h => simp [mE] at h
      | _ :: _ :: _, _, h => simp [mE] at h
    | _ => simp [mE] at h
  | .ch o p a b c, G, C, k, X, own, g, ae, h => by
    cases ae with
    | Compare x ops ys pos =>
      match ops, ys, h with
      | [op, op'], [y, z], h =>
        simp only [mE, Bool.and_eq_true, decide_eq_true_eq] at h
        obtain ⟨⟨⟨⟨⟨rfl, rfl⟩, h0⟩, h1⟩, h2⟩, h3⟩ := h
        exact ⟨PT.imp (pt_chain (op_cmpD o g.units) (op_cmpD p g.units) (sE a g x h1) (sE b g y h2) (sE c g z h3) (by show behindInMarks _ z = false; exact notSet_mark h0)) fun _ _ _ q => core_ch (tT_val q), fun op vs pos e => nomatch e⟩
      | [], _, h => simp [mE] at h
      | [_], _, h => simp [mE] at h
      | [_, _], [], h => simp [mE] at h
      | [_, _], [_], h => simp [mE] at h
      | [_, _], _ :: _ :: _ :: _, h => simp [mE] at h
      | _ :: _ :: _ :: _, _, h => simp [mE] at h
    | _ => simp [mE] at h
  | .an a b, G, C, k, X, own, g, ae, h => by
    cases ae with
    | BoolOp op vs pos =>
      have key : PW X (.BoolOp op vs pos) (tT C X.K (.an a b)) := by
        match op, vs, h with
        | .And, [x, y], h =>
          simp only [mE, Bool.and_eq_true] at h
          exact PW.imp (pw_and (sT a g x h.1).1 (pw_and1 (sT b g y h.2).1)) fun _ _ _ q => core_anT q
        | .And, x :: y :: z :: ys, h =>
          simp only [mE, Bool.and_eq_true] at h
          exact PW.imp (pw_and (sT a g x h.1).1 ((sT b g _ h.2).2 _ _ _ rfl)) fun _ _ _ q => core_anT q
        | .And, [], h => simp [mE] at h
        | .And, [_], h => simp [mE] at h
        | .Or, _, h => simp [mE] at h
      exact ⟨key.pt, fun _ _ _ _ => key⟩
    | _ => simp [mE] at h
  | .orr a b, G, C, k, X, own, g, ae, h => by
    cases ae with
    | BoolOp op vs pos =>
      have key : PW X (.BoolOp op vs pos) (tT C X.K (.orr a b)) := by
        match op, vs, h with
        | .Or, [x, y], h =>
          simp only [mE, Bool.and_eq_true] at h
          exact PW.imp (pw_or (sT a g x h.1).1 (pw_or1 (sT b g y h.2).1)) fun _ _ _ q => core_orT q
        | .Or, x :: y :: z :: ys, h =>
          simp only [mE, Bool.and_eq_true] at h
          exact PW.imp (pw_or (sT a g x h.1).1 ((sT b g _ h.2).2 _ _ _ rfl)) fun _ _ _ q => core_orT q
        | .Or, [], h => simp [mE] at h
        | .Or, [_], h => simp [mE] at h
        | .And, _, h => simp [mE] at h
      exact ⟨key.pt, fun _ _ _ _ => key⟩
    | _ => simp [mE] at h
theorem sEs : ∀ (es : Exs) {G : Gm} {C : Call} {k : Nat} {X : Cx} {own : Scope} (g : Gd G C k X own) (as : List Expr), mEs X.N G X.env.scope es as = true → PA X as (tEs C X.K es)
  | .nil, G, C, k, X, own, g, as, h => by
    cases as with
    | nil => exact PA.imp pa_nil fun _ _ _ q => core_nil q
    | cons a as => simp [mEs] at h
  | .cons e es, G, C, k, X, own, g, as, h => by
    cases as with
    | nil => simp [mEs] at h
    | cons a as =>
      simp only [mEs, Bool.and_eq_true] at h
      exact PA.imp (pa_cons (sE e g a h.1.2) (sEs es g as h.2) (star_cons h.1.1)) fun _ _ _ q => core_cons q
theorem sPP : ∀ (es : Exs) {G : Gm} {C : Call} {k : Nat} {X : Cx} {own : Scope} (g : Gd G C k X own) (ks : List Cn) (keys : List (Option Expr)) (values : List Expr) {pos : Pos}, mKs G X.env.scope ks keys = true → mEs X.N G X.env.scope es values = true → keys.length = values.length → PPs X pos keys values (trsOf C X.K ks es)
  | .nil, G, C, k, X, own, g, ks, keys, values, pos, h1, h2, hl => by
    cases values with
    | cons v vs => simp [mEs] at h2
    | nil =>
      cases keys with
      | cons k0 kr => simp at hl
      | nil =>
        cases ks with
        | nil => exact pps_nil
        | cons c cs => simp [mKs] at h1
  | .cons e es, G, C, k, X, own, g, ks, keys, values, pos, h1, h2, hl => by
    cases values with
    | nil => simp [mEs] at h2
    | cons v vs =>
      cases keys with
      | nil => simp at hl
      | cons k0 kr =>
        cases ks with
        | nil => simp [mKs] at h1
        | cons c cs =>
          cases k0 with
          | none => simp [mKs] at h1
          | some k0 =>
            simp only [mKs, Bool.and_eq_true] at h1
            simp only [mEs, Bool.and_eq_true] at h2
            exact pps_cons (sK g h1.1) (sE e g v h2.1.2) (sPP es g cs kr vs h1.2 h2.2 (by simpa using hl))
theorem sI : ∀ (it : Itr) {G : Gm} {C : Call} {k : Nat} {X : Cx} {own : Scope} (g : Gd G C k X own) (tg iter : Expr), mI X.N G X.env.scope it tg iter = true → PI X tg iter (tI C X.K it)
  | .ov e, G, C, k, X, own, g, tg, iter, h => by
    have hE := sE e g iter (by simpa [mI] using h)
    exact PI.imp (PI.orr (pi_list hE) (pi_tup hE)) fun _ _ _ q => core_ov q
  | .rg es, G, C, k, X, own, g, tg, iter, h => by
    cases iter with
    | Call fn as kws pos =>
      cases fn with
      | Name x p =>
        cases kws with
        | cons kw kws => simp [mI] at h
        | nil =>
          simp only [mI, Bool.and_eq_true, decide_eq_true_eq] at h
          obtain ⟨⟨⟨⟨⟨rfl, h2⟩, h3⟩, h4⟩, h5⟩, h6⟩ := h
          have hA := sEs es g as h5
          match as, hA, h4, h5, h6 with
          | [a], hA, h4, h5, h6 =>
            exact PI.imp (pi_range1 (gloB_of h2) (g.blts _ h3) hA (star_cons (noStars_tail h4).1)) fun σ H R q => core_rg1 (mEs_len h5) q
          | [a, b], hA, h4, h5, h6 =>
            obtain ⟨n1, n2⟩ := noStars_tail h4
            refine PI.imp (pi_range2 (gloB_of h2) (g.blts _ h3) hA (by rw [star_cons n1, star_cons (noStars_tail n2).1]; rfl) (star_cons (noStars_tail n2).1)) fun σ H R q => core_rg2 (mEs_len h5) q
          | [], _, _, _, h6 => simp at h6
          | _ :: _ :: _ :: _, _, _, _, h6 => simp at h6
      | _ => simp [mI] at h
    | _ => simp [mI] at h
  | .zp es, G, C, k, X, own, g, tg, iter, h => by
    cases iter with
    | Call fn as kws pos =>
      cases fn with
      | Name x p =>
        cases kws with
        | cons kw kws => simp [mI] at h
        | nil =>
          simp only [mI, Bool.and_eq_true, decide_eq_true_eq] at h
          obtain ⟨⟨⟨⟨⟨⟨rfl, h2⟩, h3⟩, h4⟩, h5⟩, h6⟩, h7⟩ := h
          have hA := sEs es g as h5
          obtain ⟨el, kk, tp, rfl⟩ := isTup_of h6
          match as, hA, h4, h5, h7 with
          | [a, b], hA, h4, h5, h7 =>
            obtain ⟨n1, n2⟩ := noStars_tail h4
            exact PI.imp (pi_z2 (gloB_of h2) (g.blts _ h3) hA (star_cons n1) (star_none n2)) fun σ H R q => core_zp2 (mEs_len h5) q
          | [a, b, c], hA, h4, h5, h7 =>
            obtain ⟨n1, n2⟩ := noStars_tail h4
            exact PI.imp (pi_z3 (gloB_of h2) (g.blts _ h3) hA (star_cons n1) (star_none n2)) fun σ H R q => core_zp3 (mEs_len h5) q
          | [], _, _, _, h7 => simp at h7
          | [_], _, _, _, h7 => simp at h7
          | _ :: _ :: _ :: _ :: _, _, _, _, h7 => simp at h7
      | _ => simp [mI] at h
    | _ => simp [mI] at h
  | .im e, G, C, k, X, own, g, tg, iter, h => by
    cases iter with
    | Call fn as kws pos =>
      cases fn with
      | Attribute o name apos =>
        match as, kws, h with
        | [], [], h =>
          simp only [mI, Bool.and_eq_true, decide_eq_true_eq] at h
          obtain ⟨⟨⟨⟨rfl, h2⟩, h3⟩, h4⟩, h5⟩ := h
          obtain ⟨el, kk, tp, rfl⟩ := isTup_of h5
          exact PI.imp (pi_im (sE e g o h4) (base_bare h2) h3) fun σ H R q => core_im q
        | _ :: _, _, h => simp [mI] at h
        | [], _ :: _, h => simp [mI] at h
      | _ => simp [mI] at h
    | _ => simp [mI] at h
  | .ky e, G, C, k, X, own, g, tg, iter, h => PI.imp (pi_ky (sE e g iter (by simpa [mI] using h))) fun σ H R q => core_ky q
  | .en e, G, C, k, X, own, g, tg, iter, h => by
    cases iter with
    | Call fn as kws pos =>
      cases fn with
      | Name x p =>
        match as, kws, h with
        | [a], [], h =>
          simp only [mI, Bool.and_eq_true, decide_eq_true_eq] at h
          obtain ⟨⟨⟨⟨⟨rfl, h2⟩, h3⟩, h4⟩, h5⟩, h6⟩ := h
          obtain ⟨el, kk, tp, rfl⟩ := isTup_of h6
          exact PI.imp (pi_e (gloB_of h2) (g.blts _ h3) (pa_cons (sE e g a h5) pa_nil (star_cons h4)) (star_cons h4)) fun σ H R q => core_en q
        | [], _, h => simp [mI] at h
        | _ :: _ :: _, _, h => simp [mI] at h
        | [_], _ :: _, h => simp [mI] at h
      | _ => simp [mI] at h
    | _ => simp [mI] at h
end
end Bx

set_option Elab.async false
set_option linter.all false
set_option maxRecDepth 100000
set_option autoImplicit false
set_option maxHeartbeats 4000000
/-! Expressions that raise. -/
namespace Bx
open PySem PySem.Spec PyProof.Rows L2
/-- an expression that raises, what is wanted of the exception -/
def tEX (C : Call) (K : PySem.W.Frag) (e : Ex) (W : WX) (σ : SG) (H : Hp) : Prop := ∃ F r c r', Wd K F H r σ ∧ xE C e r = some (c, r') ∧ ∀ F' H', Fr (Own r σ) F H F' H' → Wd K F' H' r' σ → (∀ a, Own r' σ a → Own r σ a) → W (.ref (He.ga K c)) none σ H'
def tEsX (C : Call) (K : PySem.W.Frag) (es : Exs) (W : WX) (σ : SG) (H : Hp) : Prop := ∃ F r c r', Wd K F H r σ ∧ xEs C es r = some (c, r') ∧ ∀ F' H', Fr (Own r σ) F H F' H' → Wd K F' H' r' σ → (∀ a, Own r' σ a → Own r σ a) → W (.ref (He.ga K c)) none σ H'
section
variable {C : Call} {K : PySem.W.Frag} {F H F1 H1 F2 H2 : Hp} {r r1 r2 : Env} {σ : SG} {W : WX}
theorem xcore_call {f : Nat} {es : Exs} (h : tEX C K (.call f es) W σ H) : tEs C K es σ H (fun vs H1 => spX C K f vs H1 fun cls d H' => W cls d σ H') ∨ tEsX C K es W σ H := by
  obtain ⟨F, r, c, r', wd, he, q⟩ := h
  simp only [xE] at he
  split at he
  · rename_i ws r1 h1
    exact .inl ⟨F, r, ws, r1, wd, h1, fun vs F1 H1 p => xcall_ok p he q⟩
  · exact .inr ⟨F, r, c, r', wd, he, q⟩
theorem xcore_bt {b : Bt} {es : Exs} (h : tEX C K (.bt b es) W σ H) : tEsX C K es W σ H := by
  obtain ⟨F, r, c, r', wd, he, q⟩ := h
  simp only [xE] at he
  exact ⟨F, r, c, r', wd, he, q⟩
theorem xcore_nil (h : tEsX C K .nil W σ H) : False := by
  obtain ⟨F, r, c, r', wd, he, q⟩ := h
  simp only [xEs] at he
  cases he
theorem xcore_cons {e : Ex} {es : Exs} (h : tEsX C K (.cons e es) W σ H) : tE C K e σ H (fun _ H1 => tEsX C K es W σ H1) ∨ tEX C K e W σ H := by
  obtain ⟨F, r, c, r', wd, he, q⟩ := h
  simp only [xEs] at he
  split at he
  · rename_i w r1 h1
    refine .inl ⟨F, r, w, r1, wd, h1, fun v F1 H1 p => ⟨F1, r1, c, r', p.wd, he, fun F' H' fr w' sub => ?_⟩⟩
    exact q F' H' (p.fr.trans fr fun a k => .inl (p.sub a k)) w' fun a k => p.sub a (sub a k)
  · exact .inr ⟨F, r, c, r', wd, he, q⟩
end
section
variable {G : Gm} {C : Call} {k : Nat} {X : Cx} {own : Scope} {W : WX}
/-- what never raises -/
theorem pe_noX {e : Ex} {ae : Expr} (h : ∀ r, xE C e r = none) : PE X ae (fun σ H _ => tEX C X.K e W σ H) := ⟨fun pins s σ H Q I q => by
  obtain ⟨F, r, c, r', wd, he, _⟩ := q
  rw [h r] at he
  cases he⟩
mutual
theorem sEX : ∀ (e : Ex) (g : Gd G C k X own) (tk : Takes X W) (ae : Expr), mE X.N G X.env.scope e ae = true → PE X ae (fun σ H _ => tEX C X.K e W σ H)
  | .call f es, g, tk, ae, h => by
    cases ae with
    | Call fn as kws pos =>
      cases fn with
      | Name x p =>
        cases kws with
        | cons kw kws => simp [mE] at h
        | nil =>
          simp only [mE, Bool.and_eq_true, decide_eq_true_eq] at h
          obtain ⟨⟨⟨⟨h1, h2⟩, h3⟩, h4⟩, h5⟩ := h
          obtain ⟨a, fd, ps, m1, m2, m3, m4, m5⟩ := g.funs x f h1
          have hA := sEs es g as h5
          have hX := sEsX es g tk as h5
          cases as with
          | nil =>
            cases es with
            | nil =>
              refine ⟨fun pins s σ H Q I q => ?_⟩
              rcases xcore_call q with q | q
              · refine wpAny_Call_Name_kw (ld_glob I (gloB_of h2) m1 ?_ (nmOk_of h3).1)
                exact PySem.W.callWith_K0 I.kIn m2 (run_fnX (us := []) m5 tk g.rm g.gd m3 I .nil (core_nil q))
              · exact (xcore_nil q).elim
            | cons e es => simp [mEs] at h5
          | cons a as =>
            have p1 := pe_callXx m5 tk g.rm g.gd (gloB_of h2) m1 m2 m3 hA (nmOk_of h3).1 h4 (p := p) (pos := pos)
            have p2 := pe_callGx m4 g.rm g.gd (gloB_of h2) m1 m2 m3 hX (nmOk_of h3).1 h4 (p := p) (pos := pos)
            exact PE.imp (PE.orr p1 p2) fun σ H Q q => xcore_call q
      | _ => simp [mE] at h
    | _ => simp [mE] at h
  | .bt b es, g, tk, ae, h => by
    cases ae with
    | Call fn as kws pos =>
      cases fn with
      | Name x p =>
        cases kws with
        | cons kw kws => simp [mE] at h
        | nil =>
          simp only [mE, Bool.and_eq_true, decide_eq_true_eq] at h
          obtain ⟨⟨⟨⟨⟨rfl, h2⟩, h3⟩, h4⟩, h5⟩, h6⟩ := h
          have hX := sEsX es g tk as h6
          cases as with
          | nil => simp at h5
          | cons a as => exact PE.imp (core_callB g (btV_kind b) h2 h3 hX h4) fun _ _ _ q => xcore_bt q
      | _ => simp [mE] at h
    | _ => simp [mE] at h
  | .k _, g, tk, ae, h => pe_noX fun _ => rfl
  | .v _, g, tk, ae, h => pe_noX fun _ => rfl
  | .mv _, g, tk, ae, h => pe_noX fun _ => rfl
  | .bw _, g, tk, ae, h => pe_noX fun _ => rfl
  | .ln _, g, tk, ae, h => pe_noX fun _ => rfl
  | .tup _, g, tk, ae, h => pe_noX fun _ => rfl
  | .lst _, g, tk, ae, h => pe_noX fun _ => rfl
  | .dct _ _, g, tk, ae, h => pe_noX fun _ => rfl
  | .dk _ _, g, tk, ae, h => pe_noX fun _ => rfl
  | .dn2 _ _ _ _, g, tk, ae, h => pe_noX fun _ => rfl
  | .bin _ _ _, g, tk, ae, h => pe_noX fun _ => rfl
  | .neg _, g, tk, ae, h => pe_noX fun _ => rfl
  | .nt _, g, tk, ae, h => pe_noX fun _ => rfl
  | .cmp _ _ _, g, tk, ae, h => pe_noX fun _ => rfl
  | .ch _ _ _ _ _, g, tk, ae, h => pe_noX fun _ => rfl
  | .an _ _, g, tk, ae, h => pe_noX fun _ => rfl
  | .orr _ _, g, tk, ae, h => pe_noX fun _ => rfl
  | .ix _ _, g, tk, ae, h => pe_noX fun _ => rfl
  | .sl _ _ _, g, tk, ae, h => pe_noX fun _ => rfl
  | .rv _, g, tk, ae, h => pe_noX fun _ => rfl
  | .rep _ _, g, tk, ae, h => pe_noX fun _ => rfl
  | .me _ _ _, g, tk, ae, h => pe_noX fun _ => rfl
  | .isi _ _, g, tk, ae, h => pe_noX fun _ => rfl
  | .mu _ _ _, g, tk, ae, h => pe_noX fun _ => rfl
  | .lc _ _ _ _ _, g, tk, ae, h => pe_noX fun _ => rfl
  | .lz _, g, tk, ae, h => pe_noX fun _ => rfl
  | .ss _, g, tk, ae, h => pe_noX fun _ => rfl
  | .s2 _, g, tk, ae, h => pe_noX fun _ => rfl
  | .lr1 _, g, tk, ae, h => pe_noX fun _ => rfl
  | .lr2 _ _, g, tk, ae, h => pe_noX fun _ => rfl
  | .fzn _, g, tk, ae, h => pe_noX fun _ => rfl
  | .dz _, g, tk, ae, h => pe_noX fun _ => rfl
  | .xv _, g, tk, ae, h => pe_noX fun _ => rfl
  | .isx _ _ _, g, tk, ae, h => pe_noX fun _ => rfl
  | .xnn _, g, tk, ae, h => pe_noX fun _ => rfl
theorem sEsX : ∀ (es : Exs) (g : Gd G C k X own) (tk : Takes X W) (as : List Expr), mEs X.N G X.env.scope es as = true → PA X as (fun σ H _ => tEsX C X.K es W σ H)
  | .nil, g, tk, as, h => by
    cases as with
    | nil => exact PA.imp pa_nil fun σ H Q q => (xcore_nil q).elim
    | cons a as => simp [mEs] at h
  | .cons e es, g, tk, as, h => by
    cases as with
    | nil => simp [mEs] at h
    | cons a as =>
      simp only [mEs, Bool.and_eq_true] at h
      obtain ⟨⟨h1, h2⟩, h3⟩ := h
      exact PA.imp (pa_cons (PE.orr (sE e g a h2) (sEX e g tk a h2)) (sEsX es g tk as h3) (star_cons h1)) fun σ H Q q => xcore_cons q
end
end
end Bx

set_option Elab.async false
set_option linter.all false
set_option maxRecDepth 100000
set_option autoImplicit false
set_option maxHeartbeats 4000000
/-! try: .. except x as n: m = n. -/
namespace Bx
open PySem PySem.Spec PyProof.Rows L2
section
variable {X : Cx} {pins : List (Addr × Obj)} {σ : SG} {H : Hp} {s : Shared}
/-- an object that is pinned is tracked from now on -/
theorem Inv_track {a : Addr} {oe : Obj} {o : HO} (I : Inv X ((a, oe) :: pins) σ H s) (n0 : X.s_0.heap.get? a = none) (np : ∀ p ∈ X.pn ++ pins, p.1 ≠ a) (new : ObjOk X.prog X.w (upd H a o) s.heap a o) : Inv X pins σ (upd H a o) s := by
  have pa := I.pin (a, oe) (List.mem_append_right _ List.mem_cons_self)
  obtain ⟨p1, p2, p3, p4, p5⟩ := pa
  have na : H a = none := p2
  refine ⟨I.ok, I.os, I.bare, ⟨I.base.keep, I.base.slot, fun b u e n hx => ?_, I.base.there, fun b xs e => ?_, fun b ob u e => ?_, fun b ps e => ?_⟩, I.loc, I.cell, ?_, fun x c e => ?_, fun p hp => ?_, ?_, I.len⟩
  · have nb : b ≠ a := fun z => by rw [z, n0] at e; cases e
    rw [upd_ne nb]
    exact I.base.free b u e n hx
  · have q := I.base.tups b xs e
    rw [upd_ne (ne_of_none q na)]
    exact q
  · have q := I.base.frzs b ob u e
    rw [upd_ne (ne_of_none q na)]
    exact q
  · obtain ⟨more, q⟩ := I.base.tbls b ps e
    exact ⟨more, by rw [upd_ne (ne_of_none q na)]; exact q⟩
  · rw [upd_ne (Ne.symm p3)]
    exact I.free
  · obtain ⟨v, oc, e1, e2⟩ := I.cell x c e
    have nc : c ≠ a := fun z => by
      rw [z] at e1
      rw [show s.heap.get? a = some oe from p1] at e1
      cases e1
      exact p5 v e2
    rw [upd_ne nc]
    exact I.freeC x c e
  · have hp' : p ∈ X.pn ++ ((a, oe) :: pins) := by
      rcases List.mem_append.mp hp with h | h
      · exact List.mem_append_left _ h
      · exact List.mem_append_right _ (List.mem_cons_of_mem _ h)
    obtain ⟨q1, q2, q3, q4, q5⟩ := I.pin p hp'
    exact ⟨q1, by rw [upd_ne (np p hp)]; exact q2, q3, q4, q5⟩
  · intro b u e
    by_cases hb : b = a
    · subst hb
      rw [upd_same] at e
      cases e
      exact new
    · rw [upd_ne hb] at e
      exact (I.hok b u e).stay (fun c v _ q => q) (fun c q => by rw [upd_ne (ne_of_none q na)]; exact q) fun c xs q => by rw [upd_ne (ne_of_none q na)]; exact q
/-- what the clause wishes of an exception of the body -/
def wKp (K : PySem.W.Frag) (c : Value) (i j : Nat) (D : Ends) : WX := fun cls d σ H =>
  PySem.W.exmOne K cls c = some true ∧ d = none ∧ ∃ cn, cls = .ref (He.ga K cn) ∧ ∀ a, H a = none → D.nx (((σ.set j (some (.ref a))).set i (some (.ref a))).set j none) (upd H a (ExH K cn a))
end
section
variable {X : Cx} {x n m : Str} {c : Value} {i j : Nat} {body : List Stmt} {np mp np2 ap pos pos' : Pos} {tb : WX → TS}
theorem ps_try_keep (hs : X.stack = X.env :: X.outer) (hf : X.env.frame = some X.env.locals) (hex : X.ex = []) (hN : X.N.Nodup) (hj : X.N[j]? = some n) (hi : X.N[i]? = some m) (hln : X.env.kindOf n = some .local) (hlm : X.env.scope.names.lookup m = some .local) (hc : Names X x c)
    (hvar : ∀ (a : Addr) (pn : List (Addr × Obj)), PE (X.suite a pn) (.Name n np2) (tVar j))
    (hb : ∀ (W : WX) (pn : List (Addr × Obj)) (xe : Value → Shared → Prop), Takes (X.tr pn xe) W → PassesOwn (model X.prog X.w) X.A X.env xe → PSs (X.tr pn xe) body (tb W)) :
    PS X (.Try body [.ExceptHandler (some (.Name x np)) (some n) [.Assign [.Name m mp] (.Name n np2) ap] pos'] [] [] pos) (fun D σ H => tb (wKp X.K c i j D) D σ H) := by
  refine ⟨fun pins s σ H D I h => ?_⟩
  have ok := I.ok
  have hfr : X.A.frames = some (X.env :: X.outer) := by rw [ok.frames, hs]
  have hloc : Loc X.env.scope n := .inl hln
  refine wpAny_Try_except ?_
  refine wpAny_mono ((hb (wKp X.K c i j D) (X.pn ++ pins) (fun e s₁ => wpAny (model X.prog X.w) X.A (noteFrame e X.env) (fun _ s₂ => wpAny (model X.prog X.w) X.A (setFlight e none) (fun _ s₃ =>
    wpAny (model X.prog X.w) X.A (handleBy e X.env [.ExceptHandler (some (.Name x np)) (some n) [.Assign [.Name m mp] (.Name n np2) ap] pos']) (SP X pins D) X.xe s₃) X.xe s₂) X.xe s₁) (fun u s' xx => ?_) PassesOwn.looking).run [] s σ H D (I.toTry _) h) (fun f s1 hsp => ?_) (fun e s1 he => he)
  · obtain ⟨a, B, sI, pins', σ', H', cls, d, rfl, J', nb, up, sky, na, os, ag, hb1, rfl, cn, rfl, hyes⟩ := xx
    have J : Inv X pins σ' H' sI := J'.ofTry ok
    have sky' : Sky B (X.env :: X.outer) a (Zc (.ref (He.ga X.K cn)) none) X.env.locals s'.heap := by rw [← hs]; exact sky
    show wpAny (model X.prog X.w) X.A (noteFrame (.ref a) X.env) _ _ _
    refine Sky.land Zc.steady hfr hf sky' fun h3 fl3 up3 => ?_
    have J3 : Inv X pins σ' H' { s' with heap := h3 } := J.landed nb fl3.1 (up.trans up3) os ag
    obtain ⟨oe3, vs3, he3, hz3, hd3⟩ := fl3.there
    have notFr : ∀ {h : Heap} {o : Obj} {vs : Array Value}, h.FunFrames B (X.env :: X.outer) → h.get? a = some o → o.data = .fields vs → a ∉ frs (X.env :: X.outer) := fun {h o vs} ff e dd hm => by
      obtain ⟨_, o', e', hnf⟩ := ff.mem hm
      rw [e] at e'; cases e'
      exact hnf _ dd
    have nfr := notFr fl3.2.2.1 he3 hd3
    have nL : a ≠ X.env.locals := fun z => nfr (List.mem_filterMap.mpr ⟨X.env, List.mem_cons_self, by rw [hf, z]⟩)
    have nF : a ∉ X.fs := fun hm => by
      obtain ⟨e, he, q⟩ := List.mem_filterMap.mp hm
      exact nfr (List.mem_filterMap.mpr ⟨e, List.mem_cons_of_mem _ he, q⟩)
    have nI : sI.heap.get? a = none := by
      cases k : sI.heap.get? a with
      | none => rfl
      | some o =>
        have := nb a o k (by rw [show (X.tr (X.pn ++ pins) _).stack = X.env :: X.outer from hs]; exact nfr)
        rw [fl3.2.1] at this
        cases this
    have n0 : X.s_0.heap.get? a = none := by
      cases k : X.s_0.heap.get? a with
      | none => rfl
      | some o =>
        obtain ⟨o', e'⟩ := J.base.there a o k (by rw [hex]; simp)
        rw [nI] at e'
        cases e'
    have npn : ∀ p ∈ X.pn ++ pins, p.1 ≠ a := fun p hp z => by
      have e := (J.pin p hp).1
      rw [z, nI] at e
      cases e
    have S3 := J3.suite he3 hd3 na nL nF
    refine wpAny_handleBy_cons (codeAny_handlers_test ?_) (by intro q; cases q)
    have LT : PySem.W.Looks (model X.prog X.w) h3 (typeOf (.ref a)) (.ref (He.ga X.K cn)) := fun A Q E s k q => wpAny_typeOf_ref (k _ _ he3) (by rw [hz3.1]; exact q)
    have LM := PySem.W.exm_one (M := model X.prog X.w) (J3.kIn) LT hb1
    have test : ∀ {Q : Value → Shared → Prop} {E : Value → Shared → Prop}, Q c { s' with heap := h3 } → wpAny (model X.prog X.w) (X.A.mark (some (.ref a))) (eval (.Name x np) X.env) Q E { s' with heap := h3 } := fun {Q E} q => by
      obtain ⟨hg, hdbg, hm | ⟨hm, hv, hnn⟩⟩ := hc
      · exact ld_glob (X := X.suite a ((a, oe3) :: (X.pn ++ pins))) S3 hg hm q hdbg
      · exact ld_blt (X := X.suite a ((a, oe3) :: (X.pn ++ pins))) S3 hg hm hv q hnn hdbg
    refine test (LM.here ?_)
    refine codeAny_handlers_suite_as ?_
    refine HandSPX.lands_againZ fl3 fun h4 fl4 up4 => ?_
    have J4 : Inv X pins σ' H' { s' with heap := h4 } := J.landed nb fl4.1 ((up.trans up3).trans up4) os ag
    obtain ⟨oe4, vs4, he4, hz4, hd4⟩ := fl4.there
    have S4 := J4.suite he4 hd4 na nL nF
    have hjl : j < σ'.length := by rw [J.len]; exact (List.getElem?_eq_some_iff.mp hj).1
    refine store_ok (X := X.suite a ((a, oe4) :: (X.pn ++ pins))) (v := .ref a) S4 hN hj hloc rfl (fun s5 S5 => ?_) (.inr hln)
    let D' : Ends := { nx := fun σ6 H6 => σ6 = (σ'.set j (some (.ref a))).set i (some (.ref a)) ∧ H6 = H', rt := fun _ _ => False }
    have run := (pss_one (ps_set (X := X.suite a ((a, oe4) :: (X.pn ++ pins))) (pos := ap) (pos' := mp) hN hi (.inl hlm) (hvar a _) (by rfl) (.inr hlm))).run [] s5 _ H' D' S5
      ⟨.ref a, by rw [List.getElem?_set_self hjl], rfl, rfl⟩
    refine wpAny_mono run (fun f s6 hsp => ?_) (fun _ _ z => False.elim z)
    cases f with
    | next =>
      obtain ⟨σ6, H6, S6, rfl, rfl⟩ := hsp
      have J6 : Inv X ((a, oe4) :: pins) ((σ'.set j (some (.ref a))).set i (some (.ref a))) H6 s6 := by
        refine ⟨ok, S6.os, S6.bare, S6.base, S6.loc, S6.cell, S6.free, S6.freeC, fun p hp => S6.pin p ?_, S6.hok, S6.len⟩
        refine List.mem_append_left _ ?_
        rcases List.mem_append.mp hp with h | h
        · exact List.mem_cons_of_mem _ (List.mem_append_left _ h)
        · rcases List.mem_cons.mp h with rfl | h
          · exact List.mem_cons_self
          · exact List.mem_cons_of_mem _ (List.mem_append_right _ h)
      refine gone_ok J6 hN hj hln fun s7 J7 => ?_
      have p7 := (J7.pin (a, oe4) (List.mem_append_right _ List.mem_cons_self)).1
      have new : ObjOk X.prog X.w (upd H6 a (ExH X.K cn a)) s7.heap a (ExH X.K cn a) :=
        ⟨⟨oe4, vs4, p7, hz4, hd4⟩, ⟨oe4, p7⟩, fun _ _ ⟨o, v, q, r⟩ k => ⟨o, v, k o q, r⟩⟩
      exact ⟨_, _, Inv_track J7 n0 npn new, hyes a na⟩
    | brk => obtain ⟨_, _, _, z⟩ := hsp; exact z.elim
    | cont => obtain ⟨_, _, _, z⟩ := hsp; exact z.elim
    | ret u => obtain ⟨_, _, _, _, _, z⟩ := hsp; exact z.elim
  · cases f with
    | next =>
      obtain ⟨σ', H', J', q⟩ := hsp
      exact wpAny_execs_nil ⟨σ', H', J'.ofTry ok, q⟩
    | brk =>
      obtain ⟨σ', H', J', q⟩ := hsp
      exact ⟨σ', H', J'.ofTry ok, q⟩
    | cont =>
      obtain ⟨σ', H', J', q⟩ := hsp
      exact ⟨σ', H', J'.ofTry ok, q⟩
    | ret u =>
      obtain ⟨v, σ', H', J', r, q⟩ := hsp
      exact ⟨v, σ', H', J'.ofTry ok, r, q⟩
end
end Bx

set_option Elab.async false
set_option linter.all false
set_option maxRecDepth 100000
set_option autoImplicit false
set_option maxHeartbeats 4000000
/-! Statements. -/
namespace Bx
open PySem PySem.Spec PyProof.Rows L2

section
variable {C : Call} {K : PySem.W.Frag} {F H F1 H1 F2 H2 F3 H3 : Hp} {r r1 r2 r3 : Env} {σ σ1 σ2 σ3 : SG} {st st1 st2 : List Nat}
/-- from one state to a later one, stores to st -/
structure Ps (K : PySem.W.Frag) (F H : Hp) (r : Env) (σ : SG) (st : List Nat) (r' : Env) (σ' : SG) (F' H' : Hp) : Prop where
  fr : Fr (Own r σ) F H F' H'
  wd : Wd K F' H' r' σ'
  sub : ∀ a, Own r' σ' a → Own r σ a ∨ H a = none
  ag : ∀ j, j ∉ st → σ'[j]? = σ[j]?
theorem Ps.trans (p : Ps K F H r σ st1 r1 σ1 F1 H1) (q : Ps K F1 H1 r1 σ1 st2 r2 σ2 F2 H2) (h1 : ∀ j ∈ st1, j ∈ st) (h2 : ∀ j ∈ st2, j ∈ st) : Ps K F H r σ st r2 σ2 F2 H2 := by
  refine ⟨p.fr.trans q.fr p.sub, q.wd, fun a k => ?_, fun j hj => ?_⟩
  · rcases q.sub a k with k | k
    · exact p.sub a k
    · by_cases no : Own r σ a
      · exact .inl no
      · right
        cases z : H a with
        | none => rfl
        | some u => rw [p.fr.hh a u z no] at k; cases k
  · rw [q.ag j fun m => hj (h2 j m), p.ag j fun m => hj (h1 j m)]
theorem Ps.of {w : Sl} {v : V} (p : Pe K F H r σ r1 w v F1 H1) : Ps K F H r σ st r1 σ F1 H1 := ⟨p.fr, p.wd, fun a k => .inl (p.sub a k), fun _ _ => rfl⟩
theorem Ps.ofT (f : Fr (Own r σ) F H F1 H1) (w : Wd K F1 H1 r1 σ) (s : ∀ a, Own r1 σ a → Own r σ a) : Ps K F H r σ st r1 σ F1 H1 := ⟨f, w, fun a k => .inl (s a k), fun _ _ => rfl⟩
/-- a slot told frozen data -/
theorem Ps.put {i : Nat} {d : PyData} {v : V} (f : Fr (Own r σ) F H F1 H1) (w : Wd K F1 H1 r1 σ) (s : ∀ a, Own r1 σ a → Own r σ a) (hi : i < r1.length) (q : Rp K F1 d v) (hst : i ∈ st) : Ps K F H r σ st (r1.set i (.fr d)) (σ.set i (some v)) F1 H1 :=
  ⟨f, w.put hi q, fun a k => .inl (s a (own_put (x := .fr d) (fun _ => nofun) k)), fun j hj => List.getElem?_set_ne fun e => hj (by rw [← e]; exact hst)⟩
theorem Nw.of_ps {w : Sl} {v : V} (p : Ps K F H r σ st r1 σ1 F1 H1) (n : Nw r1 σ1 H1 w v) : Nw r σ H w v := by
  cases w with
  | ow d =>
    intro a e
    have new : ∀ {b : Addr}, H1 b = none → H b = none ∨ Own r σ b := fun {b} q => by
      by_cases no : Own r σ b
      · exact .inr no
      · left
        cases k : H b with
        | none => rfl
        | some u => rw [p.fr.hh b u k no] at q; cases q
    rcases n a e with q | q
    · exact new q
    · exact (p.sub a q).symm
  | _ => trivial
/-- a result, as the statement behind wants it -/
def okR (K : PySem.W.Frag) (D : Ends) (F H : Hp) (r : Env) (σ : SG) (st : List Nat) : Rs → Prop
  | .nx r' => ∀ σ' F' H', Ps K F H r σ st r' σ' F' H' → D.nx σ' H'
  | .rt w r' => ∀ v σ' F' H', Ps K F H r σ st r' σ' F' H' → RpV K F' H' r' σ' w v → Nw r σ H w v → D.rt v H'
theorem okR.step {D : Ends} {q : Rs} (p : Ps K F H r σ st1 r1 σ1 F1 H1) (h1 : ∀ j ∈ st1, j ∈ st) (h2 : ∀ j ∈ st2, j ∈ st) (h : okR K D F H r σ st q) : okR K D F1 H1 r1 σ1 st2 q := by
  cases q with
  | nx r' => exact fun σ' F' H' z => h σ' F' H' (p.trans z h1 h2)
  | rt w r' => exact fun v σ' F' H' z rv n => h v σ' F' H' (p.trans z h1 h2) rv (n.of_ps p)
def tS (C : Call) (K : PySem.W.Frag) (s : S) : TS := fun D σ H => ∃ F r q, Wd K F H r σ ∧ evS C s r = some q ∧ okR K D F H r σ s.st q
def tB (C : Call) (K : PySem.W.Frag) (s : Ss) : TS := fun D σ H => ∃ F r q, Wd K F H r σ ∧ evB C s r = some q ∧ okR K D F H r σ s.st q

theorem sc_nil {D : Ends} (h : tB C K .nil D σ H) : tNext D σ H := by
  obtain ⟨F, r, q, wd, he, ok⟩ := h
  simp only [evB, Option.some.injEq] at he
  subst he
  exact ok σ F H ⟨Fr.refl, wd, fun _ k => .inl k, fun _ _ => rfl⟩
theorem sc_cons {s : S} {b : Ss} {D : Ends} (h : tB C K (.cons s b) D σ H) : tSeq (tS C K s) (tB C K b) D σ H := by
  obtain ⟨F, r, q, wd, he, ok⟩ := h
  simp only [evB] at he
  split at he
  · rename_i r1 h1
    exact ⟨F, r, .nx r1, wd, h1, fun σ1 F1 H1 p => ⟨F1, r1, q, p.wd, he, okR.step p (fun j m => List.mem_append_left _ m) (fun j m => List.mem_append_right _ m) ok⟩⟩
  · rename_i w r1 h1
    cases he
    exact ⟨F, r, .rt w r1, wd, h1, fun v σ1 F1 H1 p rv n => ok v σ1 F1 H1 ⟨p.fr, p.wd, p.sub, fun j hj => p.ag j fun m => hj (List.mem_append_left _ m)⟩ rv n⟩
  · cases he
theorem sc_ex {e : Ex} {D : Ends} (h : tS C K (.ex e) D σ H) : tDrop (tE C K e) D σ H := by
  obtain ⟨F, r, q, wd, he, ok⟩ := h
  simp only [evS] at he
  split at he
  · rename_i w r1 h1
    cases he
    exact ⟨F, r, w, r1, wd, h1, fun v F1 H1 p => ok σ F1 H1 (Ps.of p)⟩
  · cases he
theorem sc_rt {e : Ex} {D : Ends} (h : tS C K (.rt e) D σ H) : tRet (tE C K e) D σ H := by
  obtain ⟨F, r, q, wd, he, ok⟩ := h
  simp only [evS] at he
  split at he
  · rename_i d r1 h1
    cases he
    exact ⟨F, r, _, r1, wd, h1, fun v F1 H1 p => ok v σ F1 H1 (Ps.of p) p.rp p.nw⟩
  · rename_i d r1 h1
    cases he
    exact ⟨F, r, _, r1, wd, h1, fun v F1 H1 p => ok v σ F1 H1 (Ps.of p) p.rp p.nw⟩
  · cases he
theorem sc_rtN {D : Ends} (h : tS C K (.rt (.k .none)) D σ H) : tRetN D σ H := core_k (sc_rt h)
theorem sc_iff {c : Ex} {a b : Ss} {D : Ends} (h : tS C K (.iff c a b) D σ H) : tIfS (tT C K c) (tB C K a) (tB C K b) D σ H := by
  obtain ⟨F, r, q, wd, he, ok⟩ := h
  simp only [evS] at he
  split at he
  · rename_i r1 h1
    refine ⟨F, r, true, r1, wd, h1, fun F1 H1 f w s => ?_⟩
    show tB C K a D σ H1
    exact ⟨F1, r1, q, w, he, okR.step (Ps.ofT (st := []) f w s) (fun j m => by simp at m) (fun j m => List.mem_append_left _ m) ok⟩
  · rename_i r1 h1
    refine ⟨F, r, false, r1, wd, h1, fun F1 H1 f w s => ?_⟩
    show tB C K b D σ H1
    exact ⟨F1, r1, q, w, he, okR.step (Ps.ofT (st := []) f w s) (fun j m => by simp at m) (fun j m => List.mem_append_right _ m) ok⟩
  · cases he
theorem sc_tr {b : Ss} {D : Ends} (h : tS C K (.tr b) D σ H) : tB C K b D σ H := by
  obtain ⟨F, r, q, wd, he, ok⟩ := h
  simp only [evS] at he
  exact ⟨F, r, q, wd, he, ok⟩
theorem sc_nv {D : Ends} (h : tS C K .nv D σ H) : False := by
  obtain ⟨F, r, q, wd, he, ok⟩ := h
  cases he
/-! ### stores -/
/-- what is stored: frozen data, or a thing of one's own at a name -/
def tGA (K : PySem.W.Frag) (t : Tg) : TG := fun v σ H Q => ∃ F r w r', Wd K F H r σ ∧ RpV K F H r σ w v ∧ asg t w r = some r' ∧
  ∀ σ', Wd K F H r' σ' → (∀ j, j ∉ t.st → σ'[j]? = σ[j]?) → (∀ a, Own r' σ' a → Own r σ a ∨ ∃ d, w = .ow d ∧ v = .ref a) → Q σ' H
theorem Wd.putO (w : Wd K F H r σ) {i : Nat} {d : PyData} {a : Addr} (hi : i < r.length) (q : OwnAt K F H d a) (n : ¬ Own r σ a) : Wd K F H (r.set i (.ow d)) (σ.set i (some (V.ref a))) := by
  have hi' : i < σ.length := by rw [← w.len]; exact hi
  refine ⟨w.le, by rw [List.length_set, List.length_set]; exact w.len, fun j x h => ?_, fun j j' e e' b h1 h2 h3 h4 => ?_⟩
  · rcases set_get h with ⟨rfl, rfl⟩ | ⟨ne, h⟩
    · exact ⟨a, List.getElem?_set_self hi', q⟩
    · have z := w.sl j x h
      cases x with
      | no => trivial
      | fr d => obtain ⟨v, e1, z⟩ := z; exact ⟨v, by rw [List.getElem?_set_ne ne]; exact e1, z⟩
      | ow d => obtain ⟨v, e1, z⟩ := z; exact ⟨v, by rw [List.getElem?_set_ne ne]; exact e1, z⟩
      | lk k => exact z.elim
      | ln k => exact z.elim
      | ex C => obtain ⟨v, e1, z⟩ := z; exact ⟨v, by rw [List.getElem?_set_ne ne]; exact e1, z⟩
      | rz C => exact z.elim
  · rcases set_get h1 with ⟨rfl, _⟩ | ⟨n1, h1⟩
    · rcases set_get h2 with ⟨rfl, _⟩ | ⟨n2, h2⟩
      · rfl
      · rw [List.getElem?_set_self hi'] at h3
        cases h3
        rw [List.getElem?_set_ne n2] at h4
        exact (n ⟨j', e', h2, h4⟩).elim
    · rcases set_get h2 with ⟨rfl, _⟩ | ⟨n2, h2⟩
      · rw [List.getElem?_set_self hi'] at h4
        cases h4
        rw [List.getElem?_set_ne n1] at h3
        exact (n ⟨j, e, h1, h3⟩).elim
      · rw [List.getElem?_set_ne n1] at h3
        rw [List.getElem?_set_ne n2] at h4
        exact w.inj j j' e e' b h1 h2 h3 h4
theorem ga_nm {i : Nat} {v : V} {Q : SG → Hp → Prop} (h : tGA K (.nm i) v σ H Q) : gName i v σ H Q := by
  obtain ⟨F, r, w, r', wd, hv, he, q⟩ := h
  cases w with
  | fr d =>
    simp only [asg] at he
    split at he
    · rename_i hi
      cases he
      exact q _ (wd.put hi hv) (fun j hj => List.getElem?_set_ne (by simpa [Tg.st, eq_comm] using hj)) fun a k => .inl (own_put (x := .fr d) (fun _ => nofun) k)
    · cases he
  | ow d =>
    simp only [asg] at he
    split at he
    · rename_i hi
      cases he
      obtain ⟨a, rfl, o, n⟩ := hv
      refine q _ (wd.putO hi o n) (fun j hj => List.getElem?_set_ne (by simpa [Tg.st, eq_comm] using hj)) fun b ⟨j, e, h1, h2⟩ => ?_
      rcases set_get h1 with ⟨rfl, _⟩ | ⟨ne, h1⟩
      · rw [List.getElem?_set_self (by rw [← wd.len]; exact hi)] at h2
        cases h2
        exact .inr ⟨d, rfl, rfl⟩
      · rw [List.getElem?_set_ne ne] at h2
        exact .inl ⟨j, e, h1, h2⟩
    · cases he
  | no => simp [asg] at he
  | lk i => simp [asg] at he
  | ln i => simp [asg] at he
  | ex i => simp [asg] at he
  | rz i => simp [asg] at he
theorem ga_tup {a b : Tg} {v : V} {Q : SG → Hp → Prop} (h : tGA K (.tup a b) v σ H Q) : tG K (.tup a b) v σ H Q := by
  obtain ⟨F, r, w, r', wd, hv, he, q⟩ := h
  cases w with
  | fr d => exact ⟨F, d, r, r', wd, hv, he, fun σ' w' ag s' => q σ' w' ag fun a k => .inl (s' a k)⟩
  | lk i =>
    simp only [asg] at he
    split at he
    · rename_i ds h1
      obtain ⟨p, vs, rfl, s, z⟩ := (see_ok wd hv h1).tup
      exact ⟨F, .tuple ds, r, r', wd, ⟨p, vs, rfl, s, z⟩, he, fun σ' w' ag s' => q σ' w' ag fun a k => .inl (s' a k)⟩
    · cases he
  | _ => simp [asg] at he
theorem ga_tupn {v : V} {Q : SG → Hp → Prop} (h : tGA K .tupn v σ H Q) : tG K .tupn v σ H Q := by
  obtain ⟨F, r, w, r', wd, hv, he, q⟩ := h
  cases w with
  | fr d => exact ⟨F, d, r, r', wd, hv, he, fun σ' w' ag s' => q σ' w' ag fun a k => .inl (s' a k)⟩
  | lk i =>
    simp only [asg] at he
    split at he
    · rename_i ds h1
      obtain ⟨p, vs, rfl, s, z⟩ := (see_ok wd hv h1).tup
      exact ⟨F, .tuple ds, r, r', wd, ⟨p, vs, rfl, s, z⟩, he, fun σ' w' ag s' => q σ' w' ag fun a k => .inl (s' a k)⟩
    · cases he
  | _ => simp [asg] at he
theorem sc_as {t : Tg} {e : Ex} {D : Ends} (h : tS C K (.as t e) D σ H) : tAsg (tE C K e) (tGA K t) D σ H := by
  obtain ⟨F, r, q, wd, he, ok⟩ := h
  simp only [evS] at he
  split at he
  · rename_i w r1 h1
    split at he
    · rename_i r2 h2
      cases he
      refine ⟨F, r, w, r1, wd, h1, fun v F1 H1 p => ?_⟩
      have plain : frz t w = w → tGA K t v σ H1 D.nx := fun e => by
        rw [e] at h2
        refine ⟨F1, r1, w, r2, p.wd, p.rp, h2, fun σ2 w2 ag s2 => ok σ2 F1 H1 ⟨p.fr, w2, fun a k => ?_, ag⟩⟩
        rcases s2 a k with k | ⟨d, rfl, rfl⟩
        · exact .inl (p.sub a k)
        · exact (p.nw a rfl).symm
      have frozen : ∀ d, w = .ow d → frz t w = .fr d → tGA K t v σ H1 D.nx := fun d e1 e2 => by
        rw [e2] at h2
        subst e1
        obtain ⟨F2, f2, w3, z, s3⟩ := freeze1 (d := d) p rfl
        refine ⟨F2, r1, .fr d, r2, w3, z, h2, fun σ2 w2 ag s2 => ok σ2 F2 H1 ⟨f2, w2, fun a k => ?_, ag⟩⟩
        rcases s2 a k with k | ⟨d', e, _⟩
        · exact .inl (p.sub a k)
        · cases e
      cases t with
      | nm i => exact plain rfl
      | tup a b => cases w with
        | ow d => exact frozen d rfl rfl
        | _ => exact plain rfl
      | tupn => cases w with
        | ow d => exact frozen d rfl rfl
        | _ => exact plain rfl
    · cases he
  · cases he
theorem sc_par {i j : Nat} {a b : Ex} {D : Ends} (h : tS C K (.par i j a b) D σ H) : i ≠ j ∧ tPar i j (tEs C K (.cons a (.cons b .nil))) D σ H := by
  obtain ⟨F, r, q, wd, he, ok⟩ := h
  simp only [evS] at he
  split at he
  · rename_i ws r1 h1
    split at he
    · rename_i d e h2
      split at he
      · rename_i hij
        cases he
        refine ⟨hij.1, F, r, ws, r1, wd, h1, fun vs F1 H1 p => ?_⟩
        obtain ⟨F2, f, w2, z, s⟩ := freeze p h2
        obtain ⟨v, t, rfl, z1, w, t2, e2, z2, z3⟩ := z
        cases z3
        subst e2
        refine ⟨v, w, rfl, ok _ F2 H1 ⟨f, (w2.put hij.2.1 z1).put (by rw [List.length_set]; exact hij.2.2) z2, fun a k => .inl (p.sub a (own_put (x := .fr d) (fun _ => nofun) (own_put (x := .fr e) (fun _ => nofun) k))), fun l hl => ?_⟩⟩
        simp only [S.st, List.mem_cons, List.not_mem_nil, or_false, not_or] at hl
        rw [List.getElem?_set_ne fun e => hl.2 e.symm, List.getElem?_set_ne fun e => hl.1 e.symm]
      · cases he
    · cases he
  · cases he
theorem sc_sw {i : Nat} {x y a b : Ex} {D : Ends} (h : tS C K (.sw i x y a b) D σ H) : tAsg (tE C K (.tup (.cons a (.cons b .nil)))) (gTup K 2 (gCons (gSub (tVar i) (tE C K x) rSetL) (gCons (gSub (tVar i) (tE C K y) rSetL) gNil))) D σ H := by
  obtain ⟨F, r, q, wd, he, ok⟩ := h
  simp only [evS] at he
  split at he
  · rename_i ws r1 h1
    split at he
    · rename_i d e h2
      split at he
      · rename_i k1 r2 h3
        split at he
        · rename_i xs hr2
          split at he
          · rename_i j1 hj1
            split at he
            · rename_i k2 r4 h5
              split at he
              · rename_i ys hr4
                split at he
                · rename_i j2 hj2
                  split at he
                  · rename_i o1 o2 hr1 _
                    cases he
                    have ht : evE C (.tup (.cons a (.cons b .nil))) r = some (.fr (.tuple [d, e]), r1) := by
                      simp only [evE] at h1 ⊢
                      rw [h1]
                      simp only [h2]
                      rw [if_pos (by show 2 ≤ 16777216; decide)]
                    refine ⟨F, r, _, r1, wd, ht, fun v F1 H1 p => ?_⟩
                    have rp := p.rp
                    have rp' : Rp K F1 (.tuple [d, e]) v := rp
                    unfold Rp at rp'
                    obtain ⟨t, vs, rfl, sq, ra⟩ := rp'
                    unfold RpA at ra
                    obtain ⟨v1, rs, rfl, rd, ra⟩ := ra
                    unfold RpA at ra
                    obtain ⟨v2, rs2, rfl, rdd, ra⟩ := ra
                    unfold RpA at ra
                    subst ra
                    refine ⟨t, [v1, v2], rfl, SqT.mono p.wd.le sq, rfl, v1, [v2], rfl, ?_⟩
                    obtain ⟨ad, e1, _⟩ := p.wd.sl i _ hr1
                    refine ⟨.ref ad, e1, F1, r1, _, r2, p.wd, h3, fun iv F2 H2 p2 => ?_⟩
                    have hiv : iv = .int k1 := p2.rp
                    subst hiv
                    obtain ⟨bd, e2, ow⟩ := p2.wd.sl i _ hr2
                    rw [e1] at e2
                    cases e2
                    obtain ⟨w1, us, w2, w3⟩ := ow
                    have rv1 : Rp K F2 d v1 := Rp.mono p2.fr.ff _ _ rd
                    have rv2 : Rp K F2 e v2 := Rp.mono p2.fr.ff _ _ rdd
                    have own0 : Own r σ ad := p.sub ad (p2.sub ad ⟨i, _, hr2, e1⟩)
                    refine ⟨ad, us, k1, j1, rfl, rfl, w2, by rw [← w3.len]; exact hj1, ?_⟩
                    have wd2 : Wd K F2 (upd H2 ad (.lst (us.set j1 v1))) (r2.set i (.ow (.list (xs.set j1 d)))) σ := p2.wd.write hr2 e1 ⟨w1, _, upd_same, w3.set j1 rv1⟩
                    refine ⟨v2, [], rfl, ?_⟩
                    refine ⟨.ref ad, e1, F2, _, _, r4, wd2, h5, fun iv2 F4 H4 p4 => ?_⟩
                    have hiv2 : iv2 = .int k2 := p4.rp
                    subst hiv2
                    obtain ⟨bd, e3, ow4⟩ := p4.wd.sl i _ hr4
                    rw [e1] at e3
                    cases e3
                    obtain ⟨z1, us4, z2, z3⟩ := ow4
                    have rv4 : Rp K F4 e v2 := Rp.mono p4.fr.ff _ _ rv2
                    refine ⟨ad, us4, k2, j2, rfl, rfl, z2, by rw [← z3.len]; exact hj2, rfl, ?_⟩
                    have fA := (p.fr.trans p2.fr fun c k => .inl (p.sub c k)).write (a := ad) (o := .lst (us.set j1 v1)) own0
                    have sub2 : ∀ c, Own (r2.set i (.ow (.list (xs.set j1 d)))) σ c → Own r σ c := fun c k => p.sub c (p2.sub c (own_write hr2 k))
                    have fB := (fA.trans p4.fr fun c k => .inl (sub2 c k)).write (a := ad) (o := .lst (us4.set j2 v2)) own0
                    exact ok _ F4 _ ⟨fB, p4.wd.write hr4 e1 ⟨z1, _, upd_same, z3.set j2 rv4⟩, fun c z => .inl (sub2 c (p4.sub c (own_write hr4 z))), fun _ _ => rfl⟩
                  · cases he
                · cases he
              · cases he
            · cases he
          · cases he
        · cases he
      · cases he
    · cases he
  · cases he
theorem sc_sx {i : Nat} {x e : Ex} {D : Ends} (h : tS C K (.sx i x e) D σ H) : tAsg (tE C K e) (gSub (tVar i) (tE C K x) rSetL) D σ H ∨ sDPut (tVar i) (tE C K x) (tE C K e) D σ H ∨ tAsg (tE C K e) (gSub (tVar i) (tE C K x) (rSetN K)) D σ H := by
  obtain ⟨F, r, q, wd, he, ok⟩ := h
  simp only [evS] at he
  split at he
  · rename_i w r1 h1
    split at he
    · rename_i d y h2 hy
      split at he
      · rename_i k r2 h3
        split at he
        · rename_i o hr2
          split at he
          · rename_i o' hp
            cases he
            unfold putD at hp
            split at hp
            · rename_i xs k
              split at hp
              · rename_i j hj
                cases hp
                refine .inl ⟨F, r, w, r1, wd, h1, fun v F1 H1 p => ?_⟩
                obtain ⟨a, e1, _⟩ := p.wd.sl i _ hy
                refine ⟨.ref a, e1, F1, r1, _, r2, p.wd, h3, fun iv F2 H2 p2 => ?_⟩
                obtain ⟨F3, f3, w3, rv, _⟩ := freeze1 (p.keep p2.fr p2.wd p2.sub) h2
                obtain ⟨b, e2, o⟩ := w3.sl i _ hr2
                rw [e1] at e2
                cases e2
                obtain ⟨o1, vs, o2, o3⟩ := o
                refine ⟨a, vs, k, j, rfl, p2.rp, o2, by rw [← o3.len]; exact hj, ?_⟩
                refine ok _ F3 _ ⟨f3.write (p.sub a (p2.sub a ⟨i, _, hr2, e1⟩)), w3.write hr2 e1 ⟨o1, _, upd_same, o3.set j rv⟩, fun c z => .inl (p.sub c (p2.sub c (own_write hr2 z))), fun _ _ => rfl⟩
              · cases hp
            · rename_i kvs
              split at hp
              · rename_i qk hk
                split at hp
                · rename_i hz
                  cases hp
                  refine .inr (.inl ⟨F, r, w, r1, wd, h1, fun v F1 H1 p => ?_⟩)
                  obtain ⟨a, e1, _⟩ := p.wd.sl i _ hy
                  refine ⟨.ref a, e1, F1, r1, _, r2, p.wd, h3, fun iv F2 H2 p2 => ?_⟩
                  obtain ⟨F3, f3, w3, rv, _⟩ := freeze1 (p.keep p2.fr p2.wd p2.sub) h2
                  obtain ⟨b, e2, o⟩ := w3.sl i _ hr2
                  rw [e1] at e2
                  cases e2
                  have nn : ∀ {u : Obj} {xs : List (NestedKey × Addr × Value)}, H2 a = some (DN a u) → RpN K F3 kvs xs → kvs = [] := fun {u xs} e rn => by
                    cases kvs with
                    | nil => rfl
                    | cons kv kvs =>
                      obtain ⟨k0, d0⟩ := kv
                      unfold RpN at rn
                      obtain ⟨q0, _, _, _, _, _, ek, _⟩ := rn
                      have h0 : headN ((k0, d0) :: kvs) = false := hz.2
                      have h1 : (topKey k0).isSome = false := h0
                      rw [ek] at h1
                      cases h1
                  obtain ⟨o1, o2⟩ := o
                  rcases o2 with ⟨kv, o2, o3⟩ | ⟨u, xs, o2, o4, o3⟩
                  · have ek : iv = kV qk := keyD_kV hk (show Rp K F2 k iv from p2.rp)
                    refine ⟨a, _, rfl, .inl ⟨kv, qk, o2, ek, by rw [← o3.len, ← SZ_eq]; exact hz.1, rfl⟩, ?_⟩
                    refine ok _ F3 _ ⟨f3.write (p.sub a (p2.sub a ⟨i, _, hr2, e1⟩)), w3.write hr2 e1 ⟨o1, .inl ⟨_, upd_same, o3.put hk rv⟩⟩, fun c z => .inl (p.sub c (p2.sub c (own_write hr2 z))), fun _ _ => rfl⟩
                  · exact (o4.ne (nn o2 o3)).elim
                · cases hp
              · split at hp
                · rename_i qk hk
                  split at hp
                  · rename_i hz
                    cases hp
                    refine .inr (.inr ⟨F, r, w, r1, wd, h1, fun v F1 H1 p => ?_⟩)
                    obtain ⟨a, e1, _⟩ := p.wd.sl i _ hy
                    refine ⟨.ref a, e1, F1, r1, _, r2, p.wd, h3, fun iv F2 H2 p2 => ?_⟩
                    obtain ⟨F3, f3, w3, rv, s3⟩ := freeze1 (p.keep p2.fr p2.wd p2.sub) h2
                    obtain ⟨b, e2, o⟩ := w3.sl i _ hr2
                    rw [e1] at e2
                    cases e2
                    obtain ⟨o1, o2⟩ := o
                    have own : OwnN K F3 H2 kvs a := by
                      rcases o2 with ⟨kv, o2, o3⟩ | ⟨u, xs, o2, o4, o3⟩
                      · left
                        have h0 : kvs.isEmpty = true := by
                          have := hz.2
                          rw [o3.head] at this
                          simpa using this
                        have : kvs = [] := List.isEmpty_iff.mp h0
                        subst this
                        unfold RpK at o3
                        subst o3
                        exact ⟨rfl, o2⟩
                      · exact .inr ⟨u, xs, o2, o4.n, o3⟩
                    refine ⟨F3, a, kvs, k, d, qk, rfl, w3.le, own, hk, ?_, rv, hz.1, fun ob xs n rn => ?_⟩
                    · exact Rp.mono s3 _ _ p2.rp
                    · refine ok _ F3 _ ⟨f3.write (p.sub a (p2.sub a ⟨i, _, hr2, e1⟩)), w3.write hr2 e1 ⟨o1, .inr ⟨ob, xs, upd_same, ⟨n, put_ne⟩, rn⟩⟩, fun c z => .inl (p.sub c (p2.sub c (own_write hr2 z))), fun _ _ => rfl⟩
                  · cases hp
                · cases hp
            · cases hp
          · cases he
        · cases he
      · cases he
    · cases he
  · cases he

/-! ### loops -/
theorem whileL_inv {c : Env → Option (Sl × Env)} {b : Env → Option Rs} {kill : List Nat} {m : Nat} {q : Rs} (h : whileL c b kill m r = some q) :
    ∃ n, m = n + 1 ∧ ∃ t r1, c r = some (.fr (.bool t), r1) ∧ ((t = true ∧ ∃ q1, b r1 = some q1 ∧ ((∃ r2, q1 = .nx r2 ∧ whileL c b kill n (killS r2 kill) = some q) ∨ (∃ w r2, q1 = .rt w r2 ∧ q = q1))) ∨ (t = false ∧ q = .nx r1)) := by
  cases m with
  | zero => cases h
  | succ n =>
    refine ⟨n, rfl, ?_⟩
    simp only [whileL] at h
    split at h
    · rename_i r1 h1
      split at h
      · rename_i r2 h2
        exact ⟨true, r1, h1, .inl ⟨rfl, _, h2, .inl ⟨r2, rfl, h⟩⟩⟩
      · rename_i w r2 h2
        cases h
        exact ⟨true, r1, h1, .inl ⟨rfl, _, h2, .inr ⟨w, r2, rfl, rfl⟩⟩⟩
      · cases h
    · rename_i r1 h1
      cases h
      exact ⟨false, r1, h1, .inr ⟨rfl, rfl⟩⟩
    · cases h
theorem Ps.kill (p : Ps K F H r σ st r1 σ1 F1 H1) (l : List Nat) : Ps K F H r σ st (killS r1 l) σ1 F1 H1 := by
  rw [kill_hide]
  exact ⟨p.fr, p.wd.hide l, fun a k => p.sub a (own_hide k), p.ag⟩
theorem sc_wh {c : Ex} {b : Ss} {kill : List Nat} {D : Ends} (h : tS C K (.wh c b kill) D σ H) : tWhile (tT C K c) (tB C K b) D σ H := by
  obtain ⟨F, r, q, wd, he, ok⟩ := h
  simp only [evS] at he
  let W : Nat → SG → Hp → Prop := fun m σ2 H2 => ∃ F2 r2, Ps K F H r σ b.st r2 σ2 F2 H2 ∧ whileL (evE C c) (evB C b) kill m r2 = some q
  have p0 : Ps K F H r σ b.st r σ F H := ⟨Fr.refl, wd, fun _ k => .inl k, fun _ _ => rfl⟩
  refine ⟨W, ⟨TURNS, F, _, p0.kill kill, he⟩, ?_⟩
  rintro m σ2 H2 ⟨F2, r2, p, hw⟩
  obtain ⟨n, rfl, t, r3, h3, hr⟩ := whileL_inv hw
  refine ⟨F2, r2, t, r3, p.wd, h3, fun F3 H3 f3 w3 s3 => ?_⟩
  have p3 : Ps K F H r σ b.st r3 σ2 F3 H3 := p.trans (Ps.ofT (st := []) f3 w3 s3) (fun _ m => m) fun j m => by simp at m
  rcases hr with ⟨rfl, q1, hq, hr⟩ | ⟨rfl, rfl⟩
  · show ∃ N : SG → Hp → Prop, (∀ σ' H', N σ' H' → ∃ m', m' < n + 1 ∧ W m' σ' H') ∧ tB C K b { D with nx := N, ct := N, bk := D.nx } σ2 H3
    refine ⟨fun σ' H' => W n σ' H', fun σ' H' k => ⟨n, Nat.lt_succ_self n, k⟩, F3, r3, q1, w3, hq, ?_⟩
    rcases hr with ⟨r4, rfl, hw2⟩ | ⟨w, r4, rfl, rfl⟩
    · exact fun σ' F' H' z => ⟨F', _, (p3.trans z (fun _ m => m) fun _ m => m).kill kill, hw2⟩
    · exact fun v σ' F' H' z rv n => ok v σ' F' H' (p3.trans z (fun _ m => m) fun _ m => m) rv (n.of_ps p3)
  · exact ok σ2 F3 H3 p3
theorem forL_inv {f : PyData → Env → Option Rs} {kill : List Nat} {x : PyData} {xs : List PyData} {q : Rs} (h : forL f kill (x :: xs) r = some q) :
    ∃ q1, f x r = some q1 ∧ ((∃ r1, q1 = .nx r1 ∧ forL f kill xs (killS r1 kill) = some q) ∨ (∃ w r1, q1 = .rt w r1 ∧ q = q1)) := by
  unfold forL at h
  split at h
  · rename_i r1 h1
    exact ⟨_, h1, .inl ⟨r1, rfl, h⟩⟩
  · rename_i w r1 h1
    cases h
    exact ⟨_, h1, .inr ⟨w, r1, rfl, rfl⟩⟩
  · cases h
theorem evS_rt {w : Sl} {s : S} (h : evS C s r = some (.rt w r1)) : True := trivial
theorem sc_fo {t : Tg} {it : Itr} {b : Ss} {kill : List Nat} {D : Ends} (h : tS C K (.fo t it b kill) D σ H) : tFor (tI C K it) (tG K t) (tB C K b) D σ H := by
  obtain ⟨F, r, q, wd, he, ok⟩ := h
  simp only [evS] at he
  split at he
  · rename_i xs hs r1 hi
    split at he
    · rename_i hdis
      split at he
      · rename_i q0 hf
        cases he
        refine ⟨F, r, xs, hs, r1, wd, hi, fun J F1 H1 f1 w1 s1 hO wk => ?_⟩
        let P : Addr → Prop := fun a => Own (hide r1 hs) σ a ∨ H1 a = none
        have hdis : ∀ j ∈ hs, j ∉ t.st ++ b.st := fun j hj => by
          have := List.all_eq_true.mp hdis j hj
          simpa using this
        let f : PyData → Env → Option Rs := fun x r => match asgT t x r with
          | some r2 => evB C b r2
          | none => none
        let W : Nat → Nat → SG → Hp → Prop := fun i m σ2 H2 => m = xs.length - i ∧ i ≤ xs.length ∧ ∃ F2 r2, Ps K F1 H1 (hide r1 hs) σ (t.st ++ b.st) r2 σ2 F2 H2 ∧ forL f kill (xs.drop i) r2 = some q0
        -- the loop's result, put back
        have fin : ∀ {r' : Env} {σ' : SG} {F' H' : Hp}, Ps K F1 H1 (hide r1 hs) σ (t.st ++ b.st) r' σ' F' H' → Ps K F H r σ (t.st ++ b.st) (back r1 r' hs) σ' F' H' ∧ ∀ a, Own (back r1 r' hs) σ' a → Own r' σ' a ∨ (Own r1 σ a ∧ ¬ P a) := fun {r' σ' F' H'} p => by
          obtain ⟨w4, s4⟩ := Wd.back (P := P) w1 p.wd p.fr hO p.sub (fun a k => k) fun j hj => p.ag j (hdis j hj)
          refine ⟨⟨f1.trans p.fr fun a k => .inl (s1 a (own_hide k)), w4, fun a k => ?_, p.ag⟩, s4⟩
          have new : ∀ {c : Addr}, H1 c = none → Own r σ c ∨ H c = none := fun {c} z => by
            by_cases no : Own r σ c
            · exact .inl no
            · right
              cases k : H c with
              | none => rfl
              | some u => rw [f1.hh c u k no] at z; cases z
          rcases s4 a k with k | k
          · rcases p.sub a k with k | k
            · exact .inl (s1 a (own_hide k))
            · exact new k
          · exact .inl (s1 a k.1)
        have p0 : Ps K F1 H1 (hide r1 hs) σ (t.st ++ b.st) (hide r1 hs) σ F1 H1 := ⟨Fr.refl, w1.hide hs, fun _ k => .inl k, fun _ _ => rfl⟩
        refine ⟨W, ⟨xs.length, rfl, Nat.zero_le _, F1, _, p0.kill kill, hf⟩, ?_⟩
        rintro i m σ2 H2 ⟨rfl, hil, F2, r2, p2, hfl⟩
        by_cases hlt : i < xs.length
        · right
          rw [List.drop_eq_getElem_cons hlt] at hfl
          obtain ⟨q1, hq1, hrest⟩ := forL_inv hfl
          have hwk := (wk F2 H2 p2.fr p2.wd.le).2 i xs[i] (List.getElem?_eq_getElem hlt)
          refine ⟨hwk.1, fun σ' H' => W (i + 1) (xs.length - (i + 1)) σ' H', fun σ' H' k => ⟨_, by omega, k⟩, fun v H3 hy => ?_⟩
          obtain ⟨F3, f3, le3, rv⟩ := hwk.2 v H3 hy
          have w3 := p2.wd.go f3 le3
          have hq1 : (match asgT t xs[i] r2 with | some r2 => evB C b r2 | none => none) = some q1 := hq1
          split at hq1
          · rename_i ra ha
            refine ⟨F3, xs[i], r2, ra, w3, rv, ha, fun σ4 w4 ag4 s4 => ⟨F3, ra, q1, w4, hq1, ?_⟩⟩
            have p4 : Ps K F1 H1 (hide r1 hs) σ (t.st ++ b.st) ra σ4 F3 H3 := by
              refine ⟨p2.fr.trans (O1 := noO) f3 fun _ z => z.elim, w4, fun a k => p2.sub a (s4 a k), fun j hj => ?_⟩
              simp only [List.mem_append, not_or] at hj
              rw [ag4 j hj.1, p2.ag j (by simp only [List.mem_append, not_or]; exact hj)]
            have go : ∀ {r5 : Env} {σ5 : SG} {F5 H5 : Hp}, Ps K F3 H3 ra σ4 b.st r5 σ5 F5 H5 → Ps K F1 H1 (hide r1 hs) σ (t.st ++ b.st) r5 σ5 F5 H5 := fun z => p4.trans z (fun _ m => m) fun j m => List.mem_append_right _ m
            rcases hrest with ⟨r5, rfl, hcl⟩ | ⟨w, r5, rfl, rfl⟩
            · exact fun σ' F' H' z => ⟨rfl, hlt, F', _, (go z).kill kill, hcl⟩
            · intro v5 σ' F' H' z rv5 n5
              obtain ⟨pf, bk⟩ := fin (go z)
              refine ok v5 σ' F' H' pf ?_ ?_
              · cases w with
                | no => exact rv5.elim
                | fr d => exact rv5
                | ow d =>
                  obtain ⟨a, ea, o, no⟩ := rv5
                  refine ⟨a, ea, o, fun k => ?_⟩
                  rcases bk a k with k | ⟨_, k⟩
                  · exact no k
                  · have n6 : Nw (hide r1 hs) σ H1 (.ow d) v5 := n5.of_ps p4
                    rcases n6 a ea with k2 | k2
                    · exact k (.inr k2)
                    · exact k (.inl k2)
                | ex j => exact rv5
                | rz j => exact rv5.elim
                | lk j => exact rv5
                | ln j => exact rv5
              · have n6 : Nw (hide r1 hs) σ H1 w v5 := n5.of_ps p4
                cases w with
                | ow d =>
                  intro a ea
                  rcases n6 a ea with k | k
                  · by_cases no : Own r σ a
                    · exact .inr no
                    · left
                      cases z : H a with
                      | none => rfl
                      | some u => rw [f1.hh a u z no] at k; cases k
                  · exact .inr (s1 a (own_hide k))
                | _ => trivial
          · cases hq1
        · left
          have e : i = xs.length := by omega
          subst e
          refine ⟨(wk F2 H2 p2.fr p2.wd.le).1, ?_⟩
          rw [List.drop_length] at hfl
          cases hfl
          exact ok σ2 F2 H2 (fin p2).1
      · cases he
    · cases he
  · cases he
end
end Bx

set_option Elab.async false
set_option linter.all false
set_option maxRecDepth 100000
set_option autoImplicit false
set_option maxHeartbeats 4000000
/-! Every statement; a def; a program's defs. -/
namespace Bx
open PySem PySem.Spec PyProof.Rows L2

section
variable {G : Gm} {C : Call} {k : Nat} {X : Cx}
theorem blk_fn {env : PySem.Env} (h : env.scope.kind = .function) : env.blockKind = .function := by
  unfold Env.blockKind
  rw [h]
  rfl
/-- no comprehension but a list's -/
def lcOnly : Expr → Bool
  | .SetComp _ _ _ _ => false
  | .DictComp _ _ _ _ _ => false
  | _ => true
theorem mE_lcOnly {N : List Str} {sc : Scope} {e : Ex} {a : Expr} (h : mE N G sc e a = true) : lcOnly a = true := by
  cases a with
  | SetComp => cases e <;> simp [mE, mK, mIx] at h
  | DictComp => cases e <;> simp [mE, mK, mIx] at h
  | _ => rfl
theorem sw_off {a : Expr} {x : Str} {px : Pos} {l : Nat} {env : PySem.Env} (hk : env.scope.kind = .function) (hl : lcOnly a = true) (h : swB env.scope x px a = false) : swapsWith a (some (.Name x px)) l env = pure false := by
  cases a with
  | SetComp => cases hl
  | DictComp => cases hl
  | ListComp elt gs scope pos =>
    unfold swB at h
    have hb := blk_fn hk
    unfold swapsWith
    simp only [hb]
    have e1 : (env.kindOf x == some NameKind.local) = decide (env.scope.names.lookup x = some .local) := by
      rw [Bool.eq_iff_iff, beq_iff_eq, decide_eq_true_eq]
      rfl
    have h' : (((ScopeKind.function == ScopeKind.function && env.kindOf x == some NameKind.local) && px.line == pos.line) && !(scope.names.any fun (n, k) => n == x && (k == .local || k == .cell))) = false := by
      rw [e1]
      simpa using h
    show (pure ((((ScopeKind.function == ScopeKind.function && env.kindOf x == some NameKind.local) && px.line == pos.line) && !(scope.names.any fun (n, k) => n == x && (k == .local || k == .cell)))) : Sem Bool) = pure false
    rw [h']
  | _ => rfl
theorem sw_other {a t : Expr} {l : Nat} {env : PySem.Env} (hl : lcOnly a = true) (ht : ∀ x p, t ≠ .Name x p) : swapsWith a (some t) l env = pure false := by
  cases a with
  | SetComp => cases hl
  | DictComp => cases hl
  | ListComp => cases t <;> first | rfl | exact absurd rfl (ht _ _)
  | _ => rfl
theorem sole_off {a t : Expr} {l : Nat} {env : PySem.Env} (hl : lcOnly a = true) (ht : ∀ x p, t ≠ .Name x p) : swapsWithSole [t] a l env = pure false := sw_other hl ht
theorem sub_assign {o i : Expr} {pos : Pos} {env : PySem.Env} (h : isSlice i = false) : ∀ v, assign (.Subscript o i pos) env v = (do
      let ov ← holding [v] (eval o env)
      let iv ← holding [v, ov] (eval i env)
      standAt pos
      holding [v, ov, iv] (setItem ov iv v)
      release [v, ov, iv] []) := by
  intro v
  cases i <;> first | rfl | cases h
/-- a comprehension's parts -/
theorem lc_parts {own : Scope} (g : Gd G C k X own) {t : Tg} {it : Itr} {c e : Ex} {ow : List Nat} {elt : Expr} {gens : List Comprehension} {scope : Scope} {pos : Pos} (h : mE X.N G X.env.scope (.lc t it c e ow) (.ListComp elt gens scope pos) = true) :
    ∃ tg iter ifs tt, gens = [⟨tg, iter, ifs, 0⟩] ∧ PI X tg iter (tI C X.K it) ∧ BlkOk X.N X.env.scope scope (ownN X.N ow) ∧ (ownN X.N ow).map (·.2) = ow ∧ (∀ i ∈ t.st, i ∈ ow) ∧ (∀ σ H Q, tT C X.K c σ H Q → tt σ H Q) ∧
      (∀ (s : Shared) (H : Hp) (A : Addr) (cl : List (Str × Addr)) (fp : List Addr), PG (X.blk s H scope (compEnvC scope cl A X.env) fp) tg (tG X.K t)) ∧
      (∀ (s : Shared) (H : Hp) (A : Addr) (cl : List (Str × Addr)) (fp : List Addr), PTs (X.blk s H scope (compEnvC scope cl A X.env) fp) ifs tt) ∧
      (∀ (s : Shared) (H : Hp) (A : Addr) (cl : List (Str × Addr)) (fp : List Addr), PE (X.blk s H scope (compEnvC scope cl A X.env) fp) elt (tE C X.K e)) ∧ (∀ x, foldedSetIterable iter X.env x = pure x) := by
  match gens, h with
  | [⟨tg, iter, ifs, z⟩], h =>
    simp only [mE, Bool.and_eq_true, decide_eq_true_eq] at h
    obtain ⟨⟨⟨⟨⟨⟨⟨rfl, h1⟩, h2⟩, h3⟩, h4⟩, h5⟩, h6⟩, h7⟩ := h
    have ok := blkOk_by h1
    have hst : ∀ i ∈ t.st, i ∈ ow := fun i hi => by
      have := List.all_eq_true.mp h2 i hi
      simpa using this
    have own2 : (ownN X.N ow).map (·.2) = ow := by unfold ownN; rw [List.map_map]; exact List.map_id ow
    have gb := fun (s : Shared) (H : Hp) (A : Addr) (cl : List (Str × Addr)) (fp : List Addr) => Gd.blk g s H scope cl A fp ok.kind
    match ifs, h6 with
    | [], h6 => exact ⟨tg, iter, [], tYes, rfl, sI it g tg iter h5, ok, own2, hst, fun σ H Q q => yes_of h6 q, fun s H A cl fp => (sG (gb s H A cl fp) t).1 tg h3, fun _ _ _ _ _ => pts_nil, fun s H A cl fp => sE e (gb s H A cl fp) elt h7, notSet_fold h4⟩
    | [x], h6 => exact ⟨tg, iter, [x], tT C X.K c, rfl, sI it g tg iter h5, ok, own2, hst, fun σ H Q q => q, fun s H A cl fp => (sG (gb s H A cl fp) t).1 tg h3, fun s H A cl fp => pts_one (sT c (gb s H A cl fp) x h6).1, fun s H A cl fp => sE e (gb s H A cl fp) elt h7, notSet_fold h4⟩
    | _ :: _ :: _, h6 => simp at h6
  | [], h => simp [mE] at h
  | _ :: _ :: _, h => simp [mE] at h
theorem nat_beq {a b : Nat} (h : (a == b) = true) : a = b := beq_iff_eq.mp h
/-- name = value -/
theorem sAsN (g : Gd G C k X X.env.scope) {i : Nat} {e : Ex} {x : Str} {px pos : Pos} {a : Expr} (hi : X.N[i]? = some x) (hs : storB X.env.scope x = true) (h : mE X.N G X.env.scope e a = true) : PS X (.Assign [.Name x px] a pos) (tAsg (tE C X.K e) (gName i)) := by
  obtain ⟨s1, s2⟩ := g.sto x (storB_of hs)
  cases hw : swB X.env.scope x px a with
  | false => exact ps_set g.nd hi s1 (sE e g a h) (sw_off g.kd (mE_lcOnly h) hw) s2
  | true =>
    cases a with
    | ListComp elt gens scope lp =>
      unfold swB at hw
      simp only [Bool.and_eq_true, decide_eq_true_eq, Bool.not_eq_true'] at hw
      cases e with
      | lc t it c e2 ow =>
        obtain ⟨tg, iter, ifs, tt, rfl, pI, ok, own2, hst, htt, pG, pT, pEl, hf⟩ := lc_parts g h
        have z := ps_setLc (py := px) (pos := lp) (spos := pos) g.calm g.nd hi hw.1.1 (sw_true g.kd hw.1.1 hw.1.2 hw.2) pI ok pG pT pEl hf
        rw [own2] at z
        exact PS.imp z fun D σ H q => core_lc hst htt q
      | k c => simp [mE, mK] at h
      | isx i al ts => simp [mE, mIx] at h
      | _ => simp [mE] at h
    | _ => cases hw
theorem stores_off {t a : Expr} {env : PySem.Env} (h : (isTupV t && isTupV a) = false) (hl : ∀ es p, t ≠ .List es p) : swappedStores [t] a env = pure none := by
  cases t with
  | Tuple es kk p => cases a <;> first | rfl | cases h
  | List es p => exact absurd rfl (hl es p)
  | _ => rfl
theorem each_one {t : Expr} {env : PySem.Env} : (assignEach [t] env).map (·.2) = [assign t env] ∨ notStar t = false := by
  cases t <;> first | exact .inl rfl | exact .inr rfl
theorem par_stores {x y : Str} {px py tp p2 : Pos} {kt k2 : Nat} {u v : Expr} {env : PySem.Env} (hk : env.scope.kind = .function) (hx : env.scope.names.lookup x = some .local) (hy : env.scope.names.lookup y = some .local) (hl : (px.line == py.line) = true) (n1 : notStar u = true) (n2 : notStar v = true)
    (hf : (foldedForSure 8 u && foldedForSure 8 v) = false) (hc : (constantsAlone 8 u && constantsAlone 8 v) = false) (hxy : (x == y) = false) : swappedStores [.Tuple [.Name x px, .Name y py] kt tp] (.Tuple [u, v] k2 p2) env = pure (some [x, y]) := by
  have hb := blk_fn hk
  have kx : env.kindOf x = some .local := hx
  have ky : env.kindOf y = some .local := hy
  have hyx : (y == x) = false := by
    cases e : y == x with
    | false => rfl
    | true =>
      have := eq_of_beq e
      subst this
      rw [e] at hxy
      cases hxy
  have hl2 : (py.line == px.line) = true := by
    have := nat_beq hl
    rw [this]
    exact beq_self_eq_true _
  unfold swappedStores
  simp only [hb, kx, ky, hl2, hf, hc, hyx, hxy, List.length_cons, List.length_nil, List.filterMap_cons, List.filterMap_nil, List.head?_cons, Option.map_some, Option.getD_some, Expr.pos, beq_self_eq_true, List.all_cons, List.all_nil, Bool.and_true, Bool.true_and, List.eraseDups_cons, if_true]
  rw [if_neg (by decide), if_neg (by
    rw [List.any_cons, List.any_cons, List.any_nil, Bool.or_false, Bool.or_eq_true]
    rintro (z | z)
    · cases u <;> first | cases n1; done | cases z
    · cases v <;> first | cases n2; done | cases z)]
  simp [hf, hc, hyx]
  intro h
  exact absurd (by simp [List.eraseDups_cons]) h
theorem core_cons_two {K : PySem.W.Frag} {a b : Ex} {σ : SG} {H : Hp} {Q : List V → Hp → Prop} (h : tEs C K (.cons a (.cons b .nil)) σ H Q) : tCons (tE C K a) (tCons (tE C K b) tNil) σ H Q := by
  obtain ⟨F, r, w, r', wd, he, q⟩ := core_cons h
  refine ⟨F, r, w, r', wd, he, fun v F1 H1 p => ?_⟩
  obtain ⟨F2, r2, w2, r2', wd2, he2, q2⟩ := core_cons (q v F1 H1 p)
  exact ⟨F2, r2, w2, r2', wd2, he2, fun v2 F3 H3 p3 => core_nil (q2 v2 F3 H3 p3)⟩
theorem sAs {t : Tg} {e : Ex} (g : Gd G C k X X.env.scope) (st : Stmt) (h : mAs X.N G X.env.scope t e st = true) : PS X st (tS C X.K (.as t e)) := by
  unfold mAs at h
  split at h
  · rename_i tg a pos
    simp only [Bool.and_eq_true, Bool.not_eq_true'] at h
    obtain ⟨⟨h1, h2⟩, h3⟩ := h
    cases t with
    | nm i =>
      cases tg with
      | Name x px =>
        simp only [mT, Bool.and_eq_true, decide_eq_true_eq] at h1
        exact PS.imp (sAsN g h1.1 h1.2 h2) fun D σ H q => by
          obtain ⟨F, r, w, r', wd, he, q⟩ := sc_as q
          exact ⟨F, r, w, r', wd, he, fun v F1 H1 p => ga_nm (q v F1 H1 p)⟩
      | _ => simp [mT] at h1
    | tup ta tb =>
      cases tg with
      | Tuple es kk tp =>
        have hG := (sG g (.tup ta tb)).1 _ h1
        refine PS.imp (ps_asg (sE e g a h2) hG (sole_off (t := .Tuple es kk tp) (mE_lcOnly h2) fun _ _ => nofun) (stores_off (t := .Tuple es kk tp) h3 fun _ _ => nofun) rfl) fun D σ H q => ?_
        obtain ⟨F, r, w, r', wd, he, q⟩ := sc_as q
        exact ⟨F, r, w, r', wd, he, fun v F1 H1 p => ga_tup (q v F1 H1 p)⟩
      | _ => simp [mT] at h1
    | tupn => cases tg <;> simp [mT] at h1
  · cases h
theorem PS.orr {st : Stmt} {t t' : TS} (h : PS X st t) (h' : PS X st t') : PS X st (fun D σ H => t D σ H ∨ t' D σ H) := ⟨fun pins s σ H D I q => q.elim (h.run pins s σ H D I) (h'.run pins s σ H D I)⟩
theorem sSx {i : Nat} {x e : Ex} (g : Gd G C k X X.env.scope) (st : Stmt) (h : mSx X.N G X.env.scope i x e st = true) : PS X st (tS C X.K (.sx i x e)) := by
  unfold mSx at h
  split at h
  · rename_i n np ix sp a pos
    simp only [Bool.and_eq_true, Bool.not_eq_true'] at h
    obtain ⟨⟨⟨h1, h2⟩, h3⟩, h4⟩ := h
    exact PS.imp (PS.orr (ps_asg (sE e g a h4) (pg_sub (mV_of h1) (sE x g ix h3) set_list (sub_assign h2)) (sole_off (t := .Subscript (.Name n np) ix sp) (mE_lcOnly h4) fun _ _ => nofun) rfl rfl)
      (PS.orr (ps_dput (by have := g.units; omega) (mV_of h1) (sE x g ix h3) (sE e g a h4) (sw_other (t := .Subscript (.Name n np) ix sp) (mE_lcOnly h4) fun _ _ => nofun))
        (ps_asg (sE e g a h4) (pg_sub (mV_of h1) (sE x g ix h3) (set_n g.units) (sub_assign h2)) (sole_off (t := .Subscript (.Name n np) ix sp) (mE_lcOnly h4) fun _ _ => nofun) rfl rfl))) fun D σ H q => sc_sx q
  · cases h
theorem stores_subs {o1 i1 o2 i2 u v : Expr} {p1 p2 tp vp : Pos} {kt k2 : Nat} {env : PySem.Env} : swappedStores [.Tuple [.Subscript o1 i1 p1, .Subscript o2 i2 p2] kt tp] (.Tuple [u, v] k2 vp) env = pure none := by
  unfold swappedStores
  simp only [List.filterMap_cons, List.filterMap_nil, List.length_cons, List.length_nil]
  split
  · rfl
  · split
    · rfl
    · rfl
theorem sSw {i : Nat} {x y a b : Ex} (g : Gd G C k X X.env.scope) (st : Stmt) (h : mSw X.N G X.env.scope i x y a b st = true) : PS X st (tS C X.K (.sw i x y a b)) := by
  unfold mSw at h
  split at h
  · rename_i n np ix sp n2 np2 iy sp2 kt tp u v k2 vp pos
    simp only [Bool.and_eq_true, Bool.not_eq_true'] at h
    obtain ⟨⟨⟨⟨⟨⟨⟨⟨⟨h1, h2⟩, h3⟩, h4⟩, h5⟩, h6⟩, h7⟩, h8⟩, h9⟩, h10⟩ := h
    have hm : mE X.N G X.env.scope (.tup (.cons a (.cons b .nil))) (.Tuple [u, v] k2 vp) = true := by simp [mE, mEs, h5, h6, h9, h10]
    have hT := sE (.tup (.cons a (.cons b .nil))) g _ hm
    have hG : PG X (.Tuple [.Subscript (.Name n np) ix sp, .Subscript (.Name n2 np2) iy sp2] kt tp) _ := pg_tup g.calm (pgs_cons (pg_sub (mV_of h1) (sE x g ix h7) set_list (sub_assign h3)) (pgs_cons (pg_sub (mV_of h2) (sE y g iy h8) set_list (sub_assign h4)) pgs_nil))
    exact PS.imp (ps_asg hT hG (sole_off (t := .Tuple _ kt tp) (mE_lcOnly hm) fun _ _ => nofun) stores_subs rfl) fun D σ H q => sc_sw q
  · cases h
theorem loc2_of {i : Nat} {x : Str} {N : List Str} {sc : Scope} (h : loc2 N sc i x = true) : N[i]? = some x ∧ sc.names.lookup x = some .local := by
  unfold loc2 at h
  simpa using h
theorem sPar {i j : Nat} {ea eb : Ex} (g : Gd G C k X X.env.scope) (st : Stmt) (h : mPar X.N G X.env.scope i j ea eb st = true) : PS X st (tS C X.K (.par i j ea eb)) := by
  unfold mPar at h
  split at h
  · rename_i x px y py kt tp u v k2 p2 pos
    simp only [Bool.and_eq_true, Bool.not_eq_true'] at h
    obtain ⟨⟨⟨⟨⟨⟨⟨⟨⟨h1, h2⟩, h3⟩, h4⟩, h5⟩, h6⟩, h7⟩, h8⟩, h9⟩, h10⟩ := h
    obtain ⟨n1, l1⟩ := loc2_of h1
    obtain ⟨n2, l2⟩ := loc2_of h2
    have hij : i ≠ j := fun e => by
      subst e
      rw [n1] at n2
      cases n2
      simp at h10
    have hA := pa_cons (sE ea g u h6) (pa_cons (sE eb g v h7) pa_nil (star_cons h5)) (star_cons h4)
    exact PS.imp (ps_par g.calm g.nd n1 n2 hij l1 l2 hA (par_stores g.kd l1 l2 h3 h4 h5 h8 h9 h10) rfl) fun D σ H q => by
      obtain ⟨_, F, r, w, r', wd, he, q⟩ := sc_par q
      exact core_cons_two ⟨F, r, w, r', wd, he, q⟩
  · cases h
/-! ### what raises -/
def tSX (C : Call) (K : PySem.W.Frag) (s : S) (W : WX) (σ : SG) (H : Hp) : Prop := ∃ F r c r', Wd K F H r σ ∧ xS C s r = some (c, r') ∧ ∀ σ' F' H', Ps K F H r σ s.st r' σ' F' H' → W (.ref (He.ga K c)) none σ' H'
def tBX (C : Call) (K : PySem.W.Frag) (b : Ss) (W : WX) (σ : SG) (H : Hp) : Prop := ∃ F r c r', Wd K F H r σ ∧ xB C b r = some (c, r') ∧ ∀ σ' F' H', Ps K F H r σ b.st r' σ' F' H' → W (.ref (He.ga K c)) none σ' H'
section
variable {K : PySem.W.Frag} {σ : SG} {H : Hp} {W : WX}
theorem xs_as {t : Tg} {e : Ex} (h : tSX C K (.as t e) W σ H) : tEX C K e W σ H := by
  obtain ⟨F, r, c, r', wd, he, q⟩ := h
  simp only [xS] at he
  exact ⟨F, r, c, r', wd, he, fun F' H' f w s => q σ F' H' (Ps.ofT f w s)⟩
theorem xs_ex {e : Ex} (h : tSX C K (.ex e) W σ H) : tEX C K e W σ H := by
  obtain ⟨F, r, c, r', wd, he, q⟩ := h
  simp only [xS] at he
  exact ⟨F, r, c, r', wd, he, fun F' H' f w s => q σ F' H' (Ps.ofT f w s)⟩
theorem xs_rt {e : Ex} (h : tSX C K (.rt e) W σ H) : tEX C K e W σ H := by
  obtain ⟨F, r, c, r', wd, he, q⟩ := h
  simp only [xS] at he
  exact ⟨F, r, c, r', wd, he, fun F' H' f w s => q σ F' H' (Ps.ofT f w s)⟩
theorem xs_rs {c : Str} (h : tSX C K (.rs c) W σ H) : W (.ref (He.ga K c)) none σ H := by
  obtain ⟨F, r, c', r', wd, he, q⟩ := h
  simp only [xS, Option.some.injEq, Prod.mk.injEq] at he
  obtain ⟨rfl, rfl⟩ := he
  exact q σ F H ⟨Fr.refl, wd, fun _ k => .inl k, fun _ _ => rfl⟩
theorem xs_iff {c : Ex} {a b : Ss} (h : tSX C K (.iff c a b) W σ H) : tT C K c σ H fun x H1 => if x = true then tBX C K a W σ H1 else tBX C K b W σ H1 := by
  obtain ⟨F, r, z, r', wd, he, q⟩ := h
  simp only [xS] at he
  split at he
  · rename_i r1 h1
    refine ⟨F, r, true, r1, wd, h1, fun F1 H1 f w s => ?_⟩
    show tBX C K a W σ H1
    exact ⟨F1, r1, z, r', w, he, fun σ' F' H' p => q σ' F' H' ((Ps.ofT (st := []) f w s).trans p (fun j m => by simp at m) (fun j m => List.mem_append_left _ m))⟩
  · rename_i r1 h1
    refine ⟨F, r, false, r1, wd, h1, fun F1 H1 f w s => ?_⟩
    show tBX C K b W σ H1
    exact ⟨F1, r1, z, r', w, he, fun σ' F' H' p => q σ' F' H' ((Ps.ofT (st := []) f w s).trans p (fun j m => by simp at m) (fun j m => List.mem_append_right _ m))⟩
  · cases he
theorem xb_cons {s : S} {b : Ss} (h : tBX C K (.cons s b) W σ H) (D : Ends) : tS C K s { D with nx := fun σ' H' => tBX C K b W σ' H' } σ H ∨ tSX C K s W σ H := by
  obtain ⟨F, r, z, r', wd, he, q⟩ := h
  simp only [xB] at he
  split at he
  · rename_i r1 h1
    refine .inl ⟨F, r, .nx r1, wd, h1, fun σ1 F1 H1 p => ⟨F1, r1, z, r', p.wd, he, fun σ' F' H' p2 => ?_⟩⟩
    exact q σ' F' H' (p.trans p2 (fun j m => List.mem_append_left _ m) fun j m => List.mem_append_right _ m)
  · cases he
  · exact .inr ⟨F, r, z, r', wd, he, fun σ' F' H' p => q σ' F' H' ⟨p.fr, p.wd, p.sub, fun j hj => p.ag j fun m => hj (List.mem_append_left _ m)⟩⟩
end
theorem ps_noX {s : S} {st : Stmt} {W : WX} (h : ∀ r, xS C s r = none) : PS X st (fun _ σ H => tSX C X.K s W σ H) := ⟨fun pins s σ H D I q => by
  obtain ⟨F, r, c, r', wd, he, _⟩ := q
  rw [h r] at he
  cases he⟩
theorem sAsX {t : Tg} {e : Ex} {W : WX} (g : Gd G C k X X.env.scope) (tk : Takes X W) (st : Stmt) (h : mAs X.N G X.env.scope t e st = true) : PS X st (fun _ σ H => tSX C X.K (.as t e) W σ H) := by
  unfold mAs at h
  split at h
  · rename_i tg a pos
    simp only [Bool.and_eq_true, Bool.not_eq_true'] at h
    obtain ⟨⟨h1, h2⟩, h3⟩ := h
    have hE := sEX e g tk a h2
    cases t with
    | nm i =>
      cases tg with
      | Name x px =>
        simp only [mT, Bool.and_eq_true, decide_eq_true_eq] at h1
        obtain ⟨s1, s2⟩ := g.sto x (storB_of h1.2)
        cases hw : swB X.env.scope x px a with
        | false => exact PS.imp (ps_set g.nd h1.1 s1 hE (sw_off g.kd (mE_lcOnly h2) hw) s2) fun D σ H q => xs_as q
        | true =>
          cases a with
          | ListComp elt gens scope lp => exact ps_noX fun r => by cases e <;> first | rfl | (exfalso; simp [mE] at h2)
          | _ => cases hw
      | _ => simp [mT] at h1
    | tup ta tb =>
      cases tg with
      | Tuple es kk tp => exact PS.imp (ps_asg hE ((sG g (.tup ta tb)).1 _ h1) (sole_off (t := .Tuple es kk tp) (mE_lcOnly h2) fun _ _ => nofun) (stores_off (t := .Tuple es kk tp) h3 fun _ _ => nofun) rfl) fun D σ H q => xs_as q
      | _ => simp [mT] at h1
    | tupn => cases tg <;> simp [mT] at h1
  · cases h
theorem sRsX {c : Str} {W : WX} (g : Gd G C k X X.env.scope) (tk : Takes X W) (st : Stmt) (h : mRs G X.env.scope c st = true) : PS X st (fun _ σ H => tSX C X.K (.rs c) W σ H) := by
  unfold mRs at h
  split at h
  · rename_i x px m j p2 pos pos2
    simp only [Bool.and_eq_true, decide_eq_true_eq] at h
    obtain ⟨⟨⟨rfl, h2⟩, h3⟩, h4⟩ := h
    have f := g.excs x (by simpa using h4)
    exact PS.imp (L2.ps_raise g.calm tk (L2.pmk_own PySem.F.excBase_ValueError f.q f.mg f.kp (L2.raises_own f.sb f.ty) (gloB_of h2) (nmOk_of h3).1)) fun D σ H q => xs_rs q
  · cases h
/-- a def's own context -/
structure Fd (X : Cx) : Prop where
  hs : X.stack = X.env :: X.outer
  hf : X.env.frame = some X.env.locals
  hx : X.ex = []
section
variable {K : PySem.W.Frag} {σ : SG} {H : Hp}
theorem ps_caught {F H F' H' : Hp} {r r1 : Env} {σ σ' : SG} {st : List Nat} {i j : Nat} {c : Str} {a : Addr} (p : Ps K F H r σ st r1 σ' F' H') (hi : i < r1.length) (hij : i ≠ j) (na : H' a = none) :
    Ps K F H r σ (i :: j :: st) ((r1.set j .no).set i (.ex c)) (((σ'.set j (some (V.ref a))).set i (some (V.ref a))).set j none) (upd F' a (ExH K c a)) (upd H' a (ExH K c a)) := by
  have len := p.wd.len
  have w1 : Wd K (upd F' a (ExH K c a)) (upd H' a (ExH K c a)) r1 σ' := p.wd.go (Fr.refl.upF p.wd.le na) (same_up2 p.wd.le na)
  have σk : ∀ k, k ≠ i → k ≠ j → (((σ'.set j (some (V.ref a))).set i (some (V.ref a))).set j none)[k]? = σ'[k]? := fun k h1 h2 => by
    rw [List.getElem?_set_ne (Ne.symm h2), List.getElem?_set_ne (Ne.symm h1), List.getElem?_set_ne (Ne.symm h2)]
  have σi : (((σ'.set j (some (V.ref a))).set i (some (V.ref a))).set j none)[i]? = some (some (V.ref a)) := by
    rw [List.getElem?_set_ne (Ne.symm hij), List.getElem?_set_self (by rw [List.length_set]; omega)]
  have own : ∀ {k : Nat} {d : PyData}, ((r1.set j .no).set i (.ex c))[k]? = some (Sl.ow d) → k ≠ i ∧ k ≠ j ∧ r1[k]? = some (Sl.ow d) := fun {k d} h => by
    rcases set_get h with ⟨_, e⟩ | ⟨n1, h⟩
    · cases e
    · rcases set_get h with ⟨_, e⟩ | ⟨n2, h⟩
      · cases e
      · exact ⟨Ne.symm n1, Ne.symm n2, h⟩
  refine ⟨p.fr.upF p.wd.le na, ⟨w1.le, by simp only [List.length_set]; exact len, fun k y h => ?_, fun k k' d d' b h1 h2 h3 h4 => ?_⟩, fun b ⟨k, d, h1, h2⟩ => ?_, fun k hk => ?_⟩
  · rcases set_get h with ⟨rfl, rfl⟩ | ⟨n1, h⟩
    · exact ⟨a, σi, upd_same⟩
    · rcases set_get h with ⟨rfl, rfl⟩ | ⟨n2, h⟩
      · trivial
      · have q := w1.sl k y h
        have e := σk k (Ne.symm n1) (Ne.symm n2)
        cases y with
        | no => trivial
        | fr d => obtain ⟨v, e1, z⟩ := q; exact ⟨v, e.trans e1, z⟩
        | ow d => obtain ⟨v, e1, z⟩ := q; exact ⟨v, e.trans e1, z⟩
        | ex d => obtain ⟨v, e1, z⟩ := q; exact ⟨v, e.trans e1, z⟩
        | rz d => exact q.elim
        | lk d => exact q.elim
        | ln d => exact q.elim
  · obtain ⟨a1, a2, a3⟩ := own h1
    obtain ⟨b1, b2, b3⟩ := own h2
    rw [σk k a1 a2] at h3
    rw [σk k' b1 b2] at h4
    exact w1.inj k k' d d' b a3 b3 h3 h4
  · obtain ⟨a1, a2, a3⟩ := own h1
    rw [σk k a1 a2] at h2
    exact p.sub b ⟨k, d, a3, h2⟩
  · simp only [List.mem_cons, not_or] at hk
    rw [σk k hk.1 hk.2.1]
    exact p.ag k hk.2.2
theorem sc_tx {x : Str} {i j : Nat} {hs : List Str} {b : Ss} {D : Ends} (hsub : ∀ c ∈ hs, PySem.W.exmOne K (.ref (He.ga K c)) (.ref (He.ga K x)) = some true) (h : tS C K (.tx i j hs b) D σ H) :
    tB C K b D σ H ∨ tBX C K b (wKp K (.ref (He.ga K x)) i j D) σ H := by
  obtain ⟨F, r, q, wd, he, ok⟩ := h
  simp only [evS] at he
  split at he
  · rename_i q' h1
    cases he
    exact .inl ⟨F, r, _, wd, h1, okR.step (st1 := []) ⟨Fr.refl, wd, fun _ k => .inl k, fun _ _ => rfl⟩ (fun j m => by simp at m) (fun j m => List.mem_cons_of_mem _ (List.mem_cons_of_mem _ m)) ok⟩
  · split at he
    · rename_i c r1 h1
      split at he
      · rename_i hc
        cases he
        refine .inr ⟨F, r, c, r1, wd, h1, fun σ' F' H' p => ⟨hsub c (by simpa using hc.1), rfl, c, rfl, fun a na => ok _ _ _ (ps_caught p hc.2.1 hc.2.2 na)⟩⟩
      · cases he
    · cases he
end
theorem PSs.orr {st : List Stmt} {t t' : TS} (h : PSs X st t) (h' : PSs X st t') : PSs X st (fun D σ H => t D σ H ∨ t' D σ H) := ⟨fun pins s σ H D I q => q.elim (h.run pins s σ H D I) (h'.run pins s σ H D I)⟩
theorem mS_tx {N : List Str} {sc : Scope} {i j : Nat} {hs : List Str} {b : Ss} {st : Stmt} (h : mS N G sc (.tx i j hs b) st = true) : ∃ (body : List Stmt) (x : Str) (np : Pos) (n m : Str) (mp : Pos) (n2 : Str) (np2 ap pos' pos : Pos),
    st = .Try body [.ExceptHandler (some (.Name x np)) (some n) [.Assign [.Name m mp] (.Name n2 np2) ap] pos'] [] [] pos ∧ mB N G sc b body = true ∧ mTx N G sc i j hs x n m n2 = true := by
  unfold mS at h
  split at h
  all_goals first
    | (rename_i e; cases e; done)
    | (rename_i e _; cases e; done)
    | cases h
    | skip
  rename_i i' j' hs' b' body x np n m mp n2 np2 ap pos' pos e
  cases e
  rw [Bool.and_eq_true] at h
  exact ⟨body, x, np, n, m, mp, n2, np2, ap, pos', pos, rfl, h.1, h.2⟩
mutual
theorem sS {X : Cx} : ∀ (s : S) (g : Gd G C k X X.env.scope) (hp : PassesOwn (model X.prog X.w) X.A X.env X.xe) (fd : Fd X) (a : Stmt), mS X.N G X.env.scope s a = true → PS X a (tS C X.K s)
  | .as t e, g, hp, fd, st, h => sAs g st (by simpa [mS] using h)
  | .par i j ea eb, g, hp, fd, st, h => sPar g st (by simpa [mS] using h)
  | .sx i x e, g, hp, fd, st, h => sSx g st (by simpa [mS] using h)
  | .sw i x y a b, g, hp, fd, st, h => sSw g st (by simpa [mS] using h)
  | .ex e, g, hp, fd, st, h => by
    cases st with
    | Expr a pos =>
      simp only [mS, Bool.and_eq_true] at h
      exact PS.imp (ps_expr (sE e g a h.2) (by have := h.1; cases a <;> first | rfl | cases this)) fun D σ H q => sc_ex q
    | _ => simp [mS] at h
  | .rt e, g, hp, fd, st, h => by
    cases st with
    | Return v pos =>
      cases v with
      | none =>
        have : e = .k .none := isNoneE_of (by simpa [mS] using h)
        subst this
        exact PS.imp ps_retN fun D σ H q => sc_rtN q
      | some a => exact PS.imp (ps_ret (sE e g a (by simpa [mS] using h))) fun D σ H q => sc_rt q
    | _ => simp [mS] at h
  | .iff c a b, g, hp, fd, st, h => by
    cases st with
    | If t x y pos =>
      simp only [mS, Bool.and_eq_true] at h
      exact PS.imp (ps_if (sT c g t h.1.1).1 (sB a g hp fd x h.1.2) (sB b g hp fd y h.2)) fun D σ H q => sc_iff q
    | _ => simp [mS] at h
  | .fo t it b kill, g, hp, fd, st, h => by
    cases st with
    | For tg iter body orelse pos =>
      cases orelse with
      | cons => simp [mS] at h
      | nil =>
        simp only [mS, Bool.and_eq_true] at h
        obtain ⟨⟨⟨h1, h2⟩, h3⟩, h4⟩ := h
        exact PS.imp (ps_for hp g.calm (sI it g tg iter h3) ((sG g t).1 tg h1) (sB b g hp fd body h4) (notSet_fold h2)) fun D σ H q => sc_fo q
    | _ => simp [mS] at h
  | .wh c b kill, g, hp, fd, st, h => by
    cases st with
    | While t body orelse pos =>
      cases orelse with
      | cons => simp [mS] at h
      | nil =>
        simp only [mS, Bool.and_eq_true] at h
        exact PS.imp (ps_while hp (sT c g t h.1).1 (sB b g hp fd body h.2)) fun D σ H q => sc_wh q
    | _ => simp [mS] at h
  | .tr b, g, hp, fd, st, h => by
    cases st with
    | Try body hs oe fb pos =>
      cases hs with
      | nil => simp [mS] at h
      | cons h0 hs =>
        cases oe with
        | cons => simp [mS] at h
        | nil =>
          cases fb with
          | cons => simp [mS] at h
          | nil =>
            have h : mB X.N G X.env.scope b body = true := by simpa [mS] using h
            exact PS.imp (ps_try_thru0 (sB (X := X.nox) b ⟨g.calm, g.nd, g.gd, g.rm, g.kd, g.sto, g.funs, g.excs, g.subs, g.tcls, g.ecs, g.cons, g.blts⟩ PassesOwn.never ⟨fd.hs, fd.hf, fd.hx⟩ body h)) fun D σ H q => sc_tr q
    | _ => simp [mS] at h
  | .rs c, g, hp, fd, st, h => ⟨fun _ _ _ _ _ _ q => by
      obtain ⟨F, r, z, wd, he, ok⟩ := q
      simp only [evS] at he
      cases he⟩
  | .tx i j hs b, g, hp, fd, st, h => by
    obtain ⟨body, x, np, n, m, mp, n2, np2, ap, pos', pos, rfl, hb, ht⟩ := mS_tx h
    unfold mTx at ht
    simp only [Bool.and_eq_true, decide_eq_true_eq, List.all_eq_true, List.contains_eq_mem] at ht
    obtain ⟨⟨⟨⟨⟨⟨⟨⟨⟨rfl, t2⟩, t3⟩, t4⟩, t5⟩, t6⟩, t7⟩, t8⟩, t9⟩, t10⟩ := ht
    have fx := g.excs x t8
    have hsub : ∀ c ∈ hs, PySem.W.exmOne X.K (.ref (He.ga X.K c)) (.ref (He.ga X.K x)) = some true := fun c hc => by
      have := g.subs c (t9 c hc).1 x t8
      rw [show G.subs.contains (c, x) = true by simpa using (t9 c hc).2] at this
      exact this
    refine PS.imp (ps_try_keep fd.hs fd.hf fd.hx g.nd t2 t3 t4 t5 ⟨gloB_of t6, (nmOk_of t7).1, .inl fx.mg⟩ (fun a pn => mV_of (X := X.suite a pn) t10) (tb := fun W D σ H => tB C X.K b D σ H ∨ tBX C X.K b W σ H) fun W pn xe tk hpx => ?_) fun D σ H q => sc_tx hsub q
    have g' : Gd G C k (X.tr pn xe) (X.tr pn xe).env.scope := ⟨g.calm, g.nd, g.gd, g.rm, g.kd, g.sto, g.funs, g.excs, g.subs, g.tcls, g.ecs, g.cons, g.blts⟩
    have fd' : Fd (X.tr pn xe) := ⟨fd.hs, fd.hf, fd.hx⟩
    exact PSs.orr (sB b g' hpx fd' body hb) (sBX b g' hpx fd' tk body hb)
  | .nv, g, hp, fd, st, h => ⟨fun _ _ _ _ _ _ q => (sc_nv q).elim⟩
theorem sB {X : Cx} : ∀ (b : Ss) (g : Gd G C k X X.env.scope) (hp : PassesOwn (model X.prog X.w) X.A X.env X.xe) (fd : Fd X) (as : List Stmt), mB X.N G X.env.scope b as = true → PSs X as (tB C X.K b)
  | .nil, g, hp, fd, as, h => by
    cases as with
    | nil => exact PSs.imp pss_nil fun D σ H q => sc_nil q
    | cons => simp [mB] at h
  | .cons s q, g, hp, fd, as, h => by
    cases as with
    | nil => simp [mB] at h
    | cons a as =>
      simp only [mB, Bool.and_eq_true] at h
      exact PSs.imp (pss_cons (sS s g hp fd a h.1) (sB q g hp fd as h.2)) fun D σ H q => sc_cons q
theorem sSX {X : Cx} {W : WX} : ∀ (s : S) (g : Gd G C k X X.env.scope) (hp : PassesOwn (model X.prog X.w) X.A X.env X.xe) (fd : Fd X) (tk : Takes X W) (a : Stmt), mS X.N G X.env.scope s a = true → PS X a (fun _ σ H => tSX C X.K s W σ H)
  | .as t e, g, hp, fd, tk, st, h => sAsX g tk st (by simpa [mS] using h)
  | .ex e, g, hp, fd, tk, st, h => by
    cases st with
    | Expr a pos =>
      simp only [mS, Bool.and_eq_true] at h
      exact PS.imp (ps_expr (sEX e g tk a h.2) (by have := h.1; cases a <;> first | rfl | cases this)) fun D σ H q => xs_ex q
    | _ => simp [mS] at h
  | .rt e, g, hp, fd, tk, st, h => by
    cases st with
    | Return v pos =>
      cases v with
      | none =>
        have : e = .k .none := isNoneE_of (by simpa [mS] using h)
        subst this
        exact ps_noX fun _ => rfl
      | some a => exact PS.imp (ps_ret (sEX e g tk a (by simpa [mS] using h))) fun D σ H q => xs_rt q
    | _ => simp [mS] at h
  | .rs c, g, hp, fd, tk, st, h => sRsX g tk st (by simpa [mS] using h)
  | .iff c a b, g, hp, fd, tk, st, h => by
    cases st with
    | If t x y pos =>
      simp only [mS, Bool.and_eq_true] at h
      exact PS.imp (ps_if (sT c g t h.1.1).1 (sBX a g hp fd tk x h.1.2) (sBX b g hp fd tk y h.2)) fun D σ H q => xs_iff q
    | _ => simp [mS] at h
  | .par _ _ _ _, g, hp, fd, tk, st, h => ps_noX fun _ => rfl
  | .sx _ _ _, g, hp, fd, tk, st, h => ps_noX fun _ => rfl
  | .sw _ _ _ _ _, g, hp, fd, tk, st, h => ps_noX fun _ => rfl
  | .fo _ _ _ _, g, hp, fd, tk, st, h => ps_noX fun _ => rfl
  | .wh _ _ _, g, hp, fd, tk, st, h => ps_noX fun _ => rfl
  | .tr _, g, hp, fd, tk, st, h => ps_noX fun _ => rfl
  | .tx _ _ _ _, g, hp, fd, tk, st, h => ps_noX fun _ => rfl
  | .nv, g, hp, fd, tk, st, h => ps_noX fun _ => rfl
theorem sBX {X : Cx} {W : WX} : ∀ (b : Ss) (g : Gd G C k X X.env.scope) (hp : PassesOwn (model X.prog X.w) X.A X.env X.xe) (fd : Fd X) (tk : Takes X W) (as : List Stmt), mB X.N G X.env.scope b as = true → PSs X as (fun _ σ H => tBX C X.K b W σ H)
  | .nil, g, hp, fd, tk, as, h => ⟨fun pins s σ H D I q => by
      obtain ⟨F, r, c, r', wd, he, _⟩ := q
      simp only [xB] at he
      cases he⟩
  | .cons s q, g, hp, fd, tk, as, h => by
    cases as with
    | nil => simp [mB] at h
    | cons a as =>
      simp only [mB, Bool.and_eq_true] at h
      exact PSs.imp (pss_cons (PS.orr (sS s g hp fd a h.1) (sSX s g hp fd tk a h.1)) (sBX q g hp fd tk as h.2)) fun D σ H z => xb_cons z D
end
end
end Bx

set_option Elab.async false
set_option linter.all false
set_option maxRecDepth 100000
set_option autoImplicit false
set_option maxHeartbeats 4000000
/-! A def keeps its promise; a program's defs; the law's end. -/
namespace Bx
open PySem PySem.Spec PyProof.Rows L2

section
variable {K : PySem.W.Frag} {F H F' H' : Hp} {ws r : Env} {vs : List V} {σ' : SG}
theorem start_at {N : List Str} {i : Nat} (h : i < vs.length) : (start N vs)[i]? = (vs.map some)[i]? := by
  unfold L2.start
  rw [List.getElem?_append_left (by simpa using h)]
theorem pad_at {n i : Nat} {x : Sl} (h : (ws ++ List.replicate n Sl.no)[i]? = some x) : (i < ws.length ∧ ws[i]? = some x) ∨ (ws.length ≤ i ∧ x = .no) := by
  by_cases hi : i < ws.length
  · rw [List.getElem?_append_left hi] at h
    exact .inl ⟨hi, h⟩
  · rw [List.getElem?_append_right (by omega), List.getElem?_replicate] at h
    split at h
    · exact .inr ⟨by omega, (Option.some.inj h).symm⟩
    · cases h
theorem own_pad {N : List Str} {n : Nat} (hl : ws.length = vs.length) {a : Addr} (h : Own (ws ++ List.replicate n Sl.no) (start N vs) a) : Own ws (vs.map some) a := by
  obtain ⟨i, d, h1, h2⟩ := h
  rcases pad_at h1 with ⟨hi, e⟩ | ⟨_, e⟩
  · rw [start_at (by omega)] at h2
    exact ⟨i, d, e, h2⟩
  · cases e
theorem pad_own {N : List Str} {n : Nat} (hl : ws.length = vs.length) {a : Addr} (h : Own ws (vs.map some) a) : Own (ws ++ List.replicate n Sl.no) (start N vs) a := by
  obtain ⟨i, d, h1, h2⟩ := h
  have hi : i < ws.length := (List.getElem?_eq_some_iff.mp h1).1
  exact ⟨i, d, by rw [List.getElem?_append_left hi]; exact h1, by rw [start_at (by omega)]; exact h2⟩
theorem wd_pad {N : List Str} {n : Nat} (w : Wd K F H ws (vs.map some)) (hn : n = N.length - vs.length) : Wd K F H (ws ++ List.replicate n Sl.no) (start N vs) := by
  have hl : ws.length = vs.length := by rw [w.len, List.length_map]
  refine ⟨w.le, ?_, fun i x h => ?_, fun i j d d' a h1 h2 h3 h4 => ?_⟩
  · unfold L2.start
    rw [List.length_append, List.length_append, List.length_replicate, List.length_replicate, List.length_map, hl, hn]
  · rcases pad_at h with ⟨hi, e⟩ | ⟨_, rfl⟩
    · have q := w.sl i x e
      have st := start_at (N := N) (vs := vs) (i := i) (by omega)
      cases x with
      | no => trivial
      | fr d => obtain ⟨v, e1, z⟩ := q; exact ⟨v, st.trans e1, z⟩
      | ow d => obtain ⟨v, e1, z⟩ := q; exact ⟨v, st.trans e1, z⟩
      | ex C => obtain ⟨v, e1, z⟩ := q; exact ⟨v, st.trans e1, z⟩
      | rz C => exact q.elim
      | lk k => exact q.elim
      | ln k => exact q.elim
    · trivial
  · rcases pad_at h1 with ⟨hi, e⟩ | ⟨_, e⟩
    · rcases pad_at h2 with ⟨hj, e'⟩ | ⟨_, e'⟩
      · rw [start_at (by omega)] at h3 h4
        exact w.inj i j d d' a e e' h3 h4
      · cases e'
    · cases e
theorem finals_at : ∀ {ws r : List Sl} {i : Nat} {x : Sl}, (finals ws r)[i]? = some x → x = .no ∨ ((∃ d, ws[i]? = some (Sl.ow d)) ∧ r[i]? = some x)
  | [], r, i, x, h => by simp [finals] at h
  | w :: ws, [], i, x, h => by cases w <;> simp [finals] at h
  | w :: ws, f :: r, 0, x, h => by
    cases w with
    | ow d =>
      simp [finals] at h
      exact .inr ⟨⟨d, rfl⟩, by simp [h]⟩
    | _ => simp [finals] at h; exact .inl h.symm
  | w :: ws, f :: r, i + 1, x, h => by
    have h' : (finals ws r)[i]? = some x := by cases w <;> simpa [finals] using h
    rcases finals_at h' with e | ⟨⟨d, e1⟩, e2⟩
    · exact .inl e
    · exact .inr ⟨⟨d, by simpa using e1⟩, by simpa using e2⟩
theorem finals_len : ∀ {ws r : List Sl}, ws.length ≤ r.length → (finals ws r).length = ws.length
  | [], r, h => by cases r <;> rfl
  | w :: ws, [], h => by simp at h
  | w :: ws, f :: r, h => by
    have := finals_len (ws := ws) (r := r) (by simpa using h)
    cases w <;> simp [finals, this]
theorem lentOk_at {asg : List Nat} : ∀ {ws : List Sl} {k i : Nat} {d : PyData}, lentOk asg k ws = true → ws[i]? = some (Sl.ow d) → k + i ∉ asg
  | [], k, i, d, h, e => by simp at e
  | w :: ws, k, 0, d, h, e => by
    simp at e
    subst e
    simp only [lentOk, Bool.and_eq_true, Bool.not_eq_true', List.contains_eq_mem, decide_eq_false_iff_not] at h
    exact h.1
  | w :: ws, k, i + 1, d, h, e => by
    have h' : lentOk asg (k + 1) ws = true := by
      cases w with
      | ow d => simp only [lentOk, Bool.and_eq_true] at h; exact h.2
      | _ => exact h
    have := lentOk_at h' (i := i) (d := d) (by simpa using e)
    rwa [show k + 1 + i = k + (i + 1) by omega] at this
/-- the end of a body, as the call's -/
theorem fin_pe {N : List Str} {n : Nat} {st asg : List Nat} {w : Sl} {v : V} (wd : Wd K F H ws (vs.map some)) (p : Ps K F H (ws ++ List.replicate n Sl.no) (start N vs) st r σ' F' H') (hl : ws.length ≤ r.length) (ha : lentOk asg 0 ws = true) (hst : ∀ j ∈ st, j ∈ asg)
    (hw : isV w = true) (rv : RpV K F' H' r σ' w v) (nw : Nw (ws ++ List.replicate n Sl.no) (start N vs) H w v) : Pe K F H ws (vs.map some) (finals ws r) w v F' H' := by
  have hlen : ws.length = vs.length := by rw [wd.len, List.length_map]
  have sg : ∀ {i : Nat} {d : PyData}, ws[i]? = some (Sl.ow d) → (vs.map some)[i]? = σ'[i]? := fun {i d} e => by
    have hi : i < ws.length := (List.getElem?_eq_some_iff.mp e).1
    have := lentOk_at ha e
    rw [p.ag i fun m => this (by simpa using hst i m), start_at (by omega)]
  have back : ∀ {a : Addr}, Own (finals ws r) (vs.map some) a → Own r σ' a := fun {a} ⟨i, d, h1, h2⟩ => by
    rcases finals_at h1 with e | ⟨⟨d0, e1⟩, e2⟩
    · cases e
    · exact ⟨i, d, e2, by rw [← sg e1]; exact h2⟩
  refine ⟨Fr.weak p.fr fun a k => .inl (own_pad hlen k), ⟨p.wd.le, by rw [finals_len hl, List.length_map, hlen], fun i x h => ?_, fun i j d d' a h1 h2 h3 h4 => ?_⟩, fun a ⟨i, d, h1, h2⟩ => ?_, ?_, ?_⟩
  · rcases finals_at h with rfl | ⟨⟨d0, e1⟩, e2⟩
    · trivial
    · have q := p.wd.sl i x e2
      cases x with
      | no => trivial
      | fr d => obtain ⟨u, z1, z2⟩ := q; exact ⟨u, (sg e1).trans z1, z2⟩
      | ow d => obtain ⟨u, z1, z2⟩ := q; exact ⟨u, (sg e1).trans z1, z2⟩
      | ex C => obtain ⟨u, z1, z2⟩ := q; exact ⟨u, (sg e1).trans z1, z2⟩
      | rz C => exact q.elim
      | lk k => exact q.elim
      | ln k => exact q.elim
  · rcases finals_at h1 with e | ⟨⟨d0, e1⟩, e2⟩
    · cases e
    rcases finals_at h2 with e | ⟨⟨d0', e1'⟩, e2'⟩
    · cases e
    exact p.wd.inj i j d d' a e2 e2' ((sg e1).symm.trans h3) ((sg e1').symm.trans h4)
  · rcases finals_at h1 with e | ⟨⟨d0, e1⟩, e2⟩
    · cases e
    · exact ⟨i, d0, e1, h2⟩
  · cases w with
    | fr d => exact rv
    | ow d =>
      obtain ⟨a, ea, o, no⟩ := rv
      exact ⟨a, ea, o, fun k => no (back k)⟩
    | _ => cases hw
  · cases w with
    | ow d =>
      intro a ea
      rcases nw a ea with k | k
      · exact .inl k
      · exact .inr (own_pad hlen k)
    | _ => trivial
end

/-! ### a def -/
/-- what the evaluator's run of one def promises -/
def spR (C : Call) (K : PySem.W.Frag) (fn : Fn) : List V → Hp → VK → Prop := fun vs H Q =>
  ∃ F ws w fs, Wd K F H ws (vs.map some) ∧ runFn C fn ws = some (w, fs) ∧ isV w = true ∧ ∀ v F' H', Pe K F H ws (vs.map some) fs w v F' H' → Q v H'
/-- the run's body -/
theorem run_body {C : Call} {K : PySem.W.Frag} {fn : Fn} {N : List Str} {vs : List V} {H : Hp} {Q : VK} (hns : fn.ns = N.length) (hst : ∀ j ∈ fn.body.st, j ∈ fn.asg) (h : spR C K fn vs H Q) :
    tB C K fn.body { nx := fun _ H' => Q .non H', rt := Q } (start N vs) H := by
  obtain ⟨F, ws, w, fs, wd, he, hiw, q⟩ := h
  have hlen : ws.length = vs.length := by rw [wd.len, List.length_map]
  unfold runFn at he
  split at he
  · rename_i hnp
    split at he
    · rename_i hlo
      have wp := wd_pad (N := N) (n := fn.ns - fn.np) wd (by omega)
      split at he
      · rename_i w' r' hb
        split at he
        · rename_i hv
          simp only [Option.some.injEq, Prod.mk.injEq] at he
          obtain ⟨rfl, rfl⟩ := he
          simp only [Bool.and_eq_true, decide_eq_true_eq] at hv
          exact ⟨F, _, _, wp, hb, fun v σ' F' H' p rv nw => q v F' H' (fin_pe wd p (by omega) hlo hst hv.1 rv nw)⟩
        · cases he
      · rename_i r' hb
        split at he
        · rename_i hv
          simp only [Option.some.injEq, Prod.mk.injEq] at he
          obtain ⟨rfl, rfl⟩ := he
          exact ⟨F, _, _, wp, hb, fun σ' F' H' p => q .non F' H' (fin_pe (w := .fr .none) wd p (by omega) hlo hst rfl rfl trivial)⟩
        · cases he
      · split at he
        · cases he
          cases hiw
        · cases he
    · cases he
  · cases he
theorem run_len {C : Call} {K : PySem.W.Frag} {fn : Fn} {vs : List V} {H : Hp} {Q : VK} (h : spR C K fn vs H Q) : vs.length = fn.np := by
  obtain ⟨F, ws, w, fs, wd, he, _, q⟩ := h
  unfold runFn at he
  split at he
  · rename_i hnp
    rw [← hnp, wd.len, List.length_map]
  · cases he
/-- the facts of the globals, for callees at room k -/
structure Gf (G : Gm) (C : Call) (k : Nat) (P : Program) (w : World) (K : PySem.W.Frag) (mg : Str → Option Value) (base : Heap) : Prop where
  funs : ∀ x f, G.funs.lookup x = some f → ∃ a fd ps, mg x = some (.ref a) ∧ PySem.W.keepIn K (.ref a) = true ∧ Binds K fd ps [] ∧ FnG P w K mg base k a fd ps (spF C K f) ∧ FnX P w K mg base k a fd ps (spX C K f)
  excs : ∀ x ∈ G.excs, ExF K mg x
  subs : ∀ x ∈ G.excs, ∀ y ∈ G.excs, PySem.W.exmOne K (.ref (He.ga K x)) (.ref (He.ga K y)) = some (G.subs.contains (x, y))
  tcls : ∀ y ∈ G.tcls, mg y = some (.ref (He.ga K y)) ∧ ∀ c ∈ G.excs, PySem.W.kitOne K (.ref (He.ga K c)) (.ref (He.ga K y)) = some (G.tsub.contains (c, y))
  ecs : ∀ c ∈ G.excs, ExcC K (He.ga K c) ∧ PySem.W.kitOne K (.ref (He.ga K c)) (.type "ValueError") = some true
  cons : ∀ x c, G.cons.lookup x = some c → ∃ u, mg x = some u ∧ RelV c.v u
  blts : ∀ x, G.blts.contains x = true → mg x = none
/-- A DEF, by the check of its text -/
theorem def_ok {G : Gm} {C : Call} {k : Nat} {P : Program} {w : World} {K : PySem.W.Frag} {mg : Str → Option Value} {base : Heap} {x qual : Str} {params : Arguments} {body : List Stmt} {scope : Scope} {f : Addr} {fd : FuncData} {N ps : List Str} {fn : Fn}
    (D : FunD K x qual params body scope [] [] f fd) (sc : FnScope N ps scope) (gf : Gf G C k P w K mg base) (hm : mB N G scope fn.body body = true) (hst : ∀ j ∈ fn.body.st, j ∈ fn.asg) (hnp : fn.np = ps.length) (hns : fn.ns = N.length) :
    FnG P w K mg base (k + 1) f fd ps (spR C K fn) := by
  obtain ⟨oc, od, dV, kV, doc, pm, an, code, ct, osl, rfl, look, cin, _, _⟩ := D.ex
  refine ⟨fun vs H Q h => by rw [run_len h, hnp], ?_⟩
  intro A outer s H args us vs Q room quiet e0 bt rel prom
  have inK : K.In s.heap := e0.mod.kin.keeps fun a o z => (e0.bs a o z).1
  have nolim : s.heap.NoLimit := e0.mod.nolimit.keeps fun a o z => (e0.bs a o z).1
  have vlen : vs.length = ps.length := by rw [run_len prom, hnp]
  let X : Cx := cxOf CX0 P w K mg base N qual scope f code A outer s H E0
  have places : ∀ y ∈ ps.zip us, scope.names.lookup y.1 = some .local ∨ (scope.names.lookup y.1 = some .cell ∧ ((cellsFrom (s.heap.objs.size + 1) scope.names []).lookup y.1).isSome = true) := by
    intro y hy
    rcases sc.par y.1 (List.of_mem_zip (show (y.1, y.2) ∈ ps.zip us from hy)).1 with z | z
    · exact .inl z
    · exact .inr ⟨z, PySem.W.cellsFrom_some _ _ _ (.inl z)⟩
  have gd : Gd G C k X.nox X.nox.env.scope := {
    calm := rfl
    nd := sc.nd
    gd := quiet
    rm := room.deeper _
    kd := sc.kind
    sto := fun y hy => ⟨hy, .inl rfl⟩
    funs := gf.funs
    excs := gf.excs
    subs := gf.subs
    tcls := gf.tcls
    ecs := gf.ecs
    cons := gf.cons
    blts := gf.blts }
  have walk : PSs X body (tB C K fn.body) := PSs.nox (sB fn.body gd PassesOwn.never ⟨rfl, rfl, rfl⟩ body hm)
  refine codeAny_call_function room.depth (inK _ _ look) rfl sc.co sc.gen rfl (PySem.W.codeRec_of inK cin) (bt _ _ _ _ ?_)
  refine wpAny_newFunctionEnv_cells sc.kind places ?_
  rintro env rfl s1 entered
  refine ⟨nolim.keeps entered.toInCall.keep, codeAny_func ?_⟩
  have I : Inv X [] (start N vs) H s1 := inv_start sc room.hd e0 vlen rel entered
  refine wpAny_mono (walk.run [] s1 (start N vs) H _ I (run_body hns hst prom)) ?_ (fun _ _ z => z)
  intro fl s' ends
  cases fl with
  | ret u =>
    obtain ⟨v, σ', H', J, rv, q⟩ := ends
    exact ⟨v, H', J.os, J.bare, J.base, J.hok, rv, q⟩
  | next =>
    obtain ⟨σ', H', J, q⟩ := ends
    exact ⟨.non, H', J.os, J.bare, J.base, J.hok, rfl, q⟩
  | brk => obtain ⟨_, _, _, q⟩ := ends; exact q.elim
  | cont => obtain ⟨_, _, _, q⟩ := ends; exact q.elim

/-- what the evaluator's run of one def promises, where it raises -/
def spRX (C : Call) (K : PySem.W.Frag) (fn : Fn) : List V → Hp → XK → Prop := fun vs H E =>
  ∃ F ws c fs, Wd K F H ws (vs.map some) ∧ runFn C fn ws = some (.rz c, fs) ∧ ∀ F' H', Fr (Own ws (vs.map some)) F H F' H' → Same F' H' → E (.ref (He.ga K c)) none H'
theorem run_bodyX {C : Call} {K : PySem.W.Frag} {fn : Fn} {N : List Str} {vs : List V} {H : Hp} {E : XK} (hns : fn.ns = N.length) (h : spRX C K fn vs H E) :
    tBX C K fn.body (fun cls d _ H' => E cls d H') (start N vs) H ∧ vs.length = fn.np := by
  obtain ⟨F, ws, c, fs, wd, he, q⟩ := h
  have hlen : ws.length = vs.length := by rw [wd.len, List.length_map]
  unfold runFn at he
  split at he
  · rename_i hnp
    refine ⟨?_, by omega⟩
    split at he
    · have wp := wd_pad (N := N) (n := fn.ns - fn.np) wd (by omega)
      split at he
      · split at he
        · rename_i hv
          cases he
          simp [isV] at hv
        · cases he
      · split at he
        · cases he
        · cases he
      · split at he
        · rename_i c' r' hb
          cases he
          exact ⟨F, _, _, r', wp, hb, fun σ' F' H' p => q F' H' (Fr.weak p.fr fun a k => .inl (own_pad hlen k)) p.wd.le⟩
        · cases he
    · cases he
  · cases he
/-- A DEF that raises -/
theorem def_okX {G : Gm} {C : Call} {k : Nat} {P : Program} {w : World} {K : PySem.W.Frag} {mg : Str → Option Value} {base : Heap} {x qual : Str} {params : Arguments} {body : List Stmt} {scope : Scope} {f : Addr} {fd : FuncData} {N ps : List Str} {fn : Fn}
    (D : FunD K x qual params body scope [] [] f fd) (sc : FnScope N ps scope) (gf : Gf G C k P w K mg base) (hm : mB N G scope fn.body body = true) (hnp : fn.np = ps.length) (hns : fn.ns = N.length) :
    FnX P w K mg base (k + 1) f fd ps (spRX C K fn) := by
  obtain ⟨oc, od, dV, kV, doc, pm, an, code, ct, osl, rfl, look, cin, _, _⟩ := D.ex
  refine ⟨fun vs H E h => by rw [(run_bodyX hns h).2, hnp], ?_⟩
  intro A outer s H args us vs E room quiet e0 bt rel prom
  have inK : K.In s.heap := e0.mod.kin.keeps fun a o z => (e0.bs a o z).1
  have nolim : s.heap.NoLimit := e0.mod.nolimit.keeps fun a o z => (e0.bs a o z).1
  have vlen : vs.length = ps.length := by rw [(run_bodyX hns prom).2, hnp]
  let X : Cx := cxOf (L2.CX P w) P w K mg base N qual scope f code A outer s H E
  have places : ∀ y ∈ ps.zip us, scope.names.lookup y.1 = some .local ∨ (scope.names.lookup y.1 = some .cell ∧ ((cellsFrom (s.heap.objs.size + 1) scope.names []).lookup y.1).isSome = true) := by
    intro y hy
    rcases sc.par y.1 (List.of_mem_zip (show (y.1, y.2) ∈ ps.zip us from hy)).1 with z | z
    · exact .inl z
    · exact .inr ⟨z, PySem.W.cellsFrom_some _ _ _ (.inl z)⟩
  have gd : Gd G C k X X.env.scope := {
    calm := rfl
    nd := sc.nd
    gd := quiet
    rm := room.deeper _
    kd := sc.kind
    sto := fun y hy => ⟨hy, .inl rfl⟩
    funs := gf.funs
    excs := gf.excs
    subs := gf.subs
    tcls := gf.tcls
    ecs := gf.ecs
    cons := gf.cons
    blts := gf.blts }
  have walk : PSs X body (fun _ σ H' => tBX C K fn.body (fun cls d _ H'' => E cls d H'') σ H') := sBX fn.body gd (passes_of rfl) ⟨rfl, rfl, rfl⟩ (takes_of rfl rfl rfl rfl) body hm
  refine codeAny_call_function room.depth (inK _ _ look) rfl sc.co sc.gen rfl (PySem.W.codeRec_of inK cin) (bt _ _ _ _ ?_)
  refine wpAny_newFunctionEnv_cells sc.kind places ?_
  rintro env rfl s1 entered
  refine ⟨nolim.keeps entered.toInCall.keep, codeAny_func ?_⟩
  have I : Inv X [] (start N vs) H s1 := inv_start sc room.hd e0 vlen rel entered
  refine wpAny_mono (walk.run [] s1 (start N vs) H { nx := fun _ _ => False, rt := fun _ _ => False } I (run_bodyX hns prom).1) ?_ (fun _ _ z => z)
  intro fl s' ends
  cases fl with
  | ret u =>
    obtain ⟨v, σ', H', J, rv, q⟩ := ends
    exact q.elim
  | next =>
    obtain ⟨σ', H', J, q⟩ := ends
    exact q.elim
  | brk => obtain ⟨_, _, _, q⟩ := ends; exact q.elim
  | cont => obtain ⟨_, _, _, q⟩ := ends; exact q.elim

/-! ### a program -/
/-- a def: its text, its names by slots (parameters first), its run -/
structure Dn where
  d : He.DefD
  N : List Str
  ps : List Str
  fn : Fn
structure Pg where
  ds : List Dn
  cons : List (Str × Cn)
  blts : List Str
  excs : List Str := []
  subs : List (Str × Str) := []
  tcls : List Str := []
  tsub : List (Str × Str) := []
def Pg.P (g : Pg) : List Fn := g.ds.map (·.fn)
def nameIx : List Dn → Nat → List (Str × Nat)
  | [], _ => []
  | d :: ds, i => (d.d.name, i) :: nameIx ds (i + 1)
def Pg.G (g : Pg) : Gm := ⟨nameIx g.ds 0, g.cons, g.blts, g.excs, g.subs, g.tcls, g.tsub⟩
def Cn.fa (x : Str) : Cn → He.Fa
  | .int i => .int x i
  | .str z => .str x z
  | _ => .free x
def Cn.okC : Cn → Bool
  | .int _ => true
  | .str _ => true
  | _ => false
/-- what the head must tell beyond the hook's own facts -/
def excB (K : PySem.W.Frag) (D : Addr) : Bool := He.eqO (PySem.W.findIn K (.ref D) "__getattribute__") (some (some (.builtin "BaseException.__getattribute__"))) && (He.eqO (PySem.W.findIn K (.ref D) "__getattr__") (some none) && (decide (PySem.W.subIn K (.ref D) (.type "BaseException") = some true) && (PySem.W.hasDictIn K D &&
  (He.eqO (PySem.W.findIn K (.ref D) "__class__") (some (some (.builtin "object.__class__"))) && (decide (PySem.W.specialIn K (.builtin "object.__class__") "__get__" = some (some (.builtin "getset_descriptor.__get__"))) && (decide (PySem.W.takesIn K (.builtin "object.__class__") = some true) && decide (PySem.W.mroIn K D (.type "object") = some true)))))))
theorem excB_ok {K : PySem.W.Frag} {D : Addr} (h : excB K D = true) : ExcC K D := by
  unfold excB at h
  simp only [Bool.and_eq_true, decide_eq_true_eq] at h
  obtain ⟨h1, h2, h3, h4, h5, h6, h7, h8⟩ := h
  exact ⟨He.eqO_ok h1, He.eqO_ok h2, h3, h4, He.eqO_ok h5, h6, h7, h8⟩
def Pg.ex (g : Pg) (K : PySem.W.Frag) : Bool := g.excs.all fun c => excB K (He.ga K c) && (decide (PySem.W.kitOne K (.ref (He.ga K c)) (.type "ValueError") = some true) && g.tcls.all fun y => decide (PySem.W.kitOne K (.ref (He.ga K c)) (.ref (He.ga K y)) = some (g.tsub.contains (c, y))))
def Pg.fx (g : Pg) : List He.Fa := (g.tcls.map .glo) ++ g.excs.flatMap fun x => .glo x :: .exc x :: g.excs.map fun y => .exm x y (g.subs.contains (x, y))
def Pg.fa (g : Pg) : List He.Fa := (g.ds.map fun d => .glo d.d.name) ++ ((g.cons.map fun c => c.2.fa c.1) ++ (g.blts.map .free ++ g.fx))
def Pg.fns (g : Pg) : List He.DefD := g.ds.map (·.d)
def scB (N ps : List Str) (sc : Scope) : Bool := decide (sc.kind = .function) && !sc.isCoroutine && !sc.isGenerator && decide N.Nodup && decide (N.take ps.length = ps) && (ps.all fun x => decide (sc.names.lookup x = some .local) || decide (sc.names.lookup x = some .cell)) && (sc.names.all fun y => decide (y.2 ≠ .free))
theorem scB_of {N ps : List Str} {sc : Scope} (h : scB N ps sc = true) : FnScope N ps sc := by
  unfold scB at h
  simp only [Bool.and_eq_true, decide_eq_true_eq, Bool.not_eq_true', List.all_eq_true, Bool.or_eq_true] at h
  obtain ⟨⟨⟨⟨⟨⟨h1, h2⟩, h3⟩, h4⟩, h5⟩, h6⟩, h7⟩ := h
  exact ⟨h1, h2, h3, h4, h5, fun x hx => h6 x hx, fun y hy => h7 y hy⟩
/-- the check of a def's text -/
def Dn.ok (G : Gm) (d : Dn) : Bool := mB d.N G d.d.scope d.fn.body d.d.body && scB d.N d.ps d.d.scope && (d.fn.body.st.all fun j => d.fn.asg.contains j) && decide (d.fn.np = d.ps.length) && decide (d.fn.ns = d.N.length) &&
  d.d.dfl.isEmpty && d.d.kwd.isEmpty && decide (d.d.at_ = (d.d.name, none))
/-- how a def's arguments are bound -/
def Dn.binds (d : Dn) : Prop := ∀ (kV doc pm : Value) (an : Option Addr) (cdv ct : Value) (us : List Value), us.length = d.ps.length → bindArgs (PySem.W.fnOf d.d.name d.d.qual d.d.params d.d.body d.d.scope .none kV doc pm an cdv ct) ⟨us, []⟩ = pure (d.ps.zip us)
structure Pg.Ok (g : Pg) : Prop where
  ds : ∀ d ∈ g.ds, d.ok g.G = true
  bs : ∀ d ∈ g.ds, d.binds
  cs : ∀ c ∈ g.cons, c.2.okC = true
theorem nameIx_of {x : Str} {f : Nat} : ∀ {ds : List Dn} {i : Nat}, (nameIx ds i).lookup x = some f → ∃ j d, ds[j]? = some d ∧ f = i + j ∧ d.d.name = x
  | [], i, h => by simp [nameIx] at h
  | d :: ds, i, h => by
    unfold nameIx at h
    rw [List.lookup_cons] at h
    split at h
    · rename_i e
      cases h
      exact ⟨0, d, rfl, rfl, (eq_of_beq e).symm⟩
    · obtain ⟨j, d', h1, h2, h3⟩ := nameIx_of h
      exact ⟨j + 1, d', by simpa using h1, by omega, h3⟩
section
variable {g : Pg} {P : Program} {w : World} {K : PySem.W.Frag} {mg : Str → Option Value} {base : Heap} {h : Heap}
/-- what the head tells -/
structure Hd (g : Pg) (K : PySem.W.Frag) (mg : Str → Option Value) : Prop where
  fun_ : ∀ (i : Nat) (d : Dn), g.ds[i]? = some d → ∃ fd, FunD K d.d.name d.d.qual d.d.params d.d.body d.d.scope [] [] (He.ga K d.d.name) fd
  glo : ∀ d ∈ g.ds, mg d.d.name = some (.ref (He.ga K d.d.name))
  cons : ∀ x c, g.cons.lookup x = some c → ∃ u, mg x = some u ∧ RelV c.v u
  blts : ∀ x ∈ g.blts, mg x = none
  excs : ∀ x ∈ g.excs, ExF K mg x
  subs : ∀ x ∈ g.excs, ∀ y ∈ g.excs, PySem.W.exmOne K (.ref (He.ga K x)) (.ref (He.ga K y)) = some (g.subs.contains (x, y))
  tcls : ∀ y ∈ g.tcls, mg y = some (.ref (He.ga K y)) ∧ ∀ c ∈ g.excs, PySem.W.kitOne K (.ref (He.ga K c)) (.ref (He.ga K y)) = some (g.tsub.contains (c, y))
  ecs : ∀ c ∈ g.excs, ExcC K (He.ga K c) ∧ PySem.W.kitOne K (.ref (He.ga K c)) (.type "ValueError") = some true
theorem head_facts (ok : g.Ok) (X : K.In h) (G : h.Ns mainGlobals mg) (c : He.SaysD g.fa g.fns K) (cx : g.ex K = true) : Hd g K mg := by
  have fact : ∀ f ∈ g.fa, f.ok K = true := fun f hf => by
    obtain ⟨i, hi⟩ := List.getElem?_of_mem hf
    exact c.fact i hi
  have fx : ∀ f ∈ g.fx, f.ok K = true := fun f hf => fact f (by unfold Pg.fa; exact List.mem_append_right _ (List.mem_append_right _ (List.mem_append_right _ hf)))
  refine ⟨fun i d hd => ?_, fun d hd => ?_, fun x cc hx => ?_, fun x hx => ?_, fun x hx => ?_, fun x hx y hy => ?_, fun y hy => ⟨He.glo_ok X G (fx (.glo y) (List.mem_append_left _ (List.mem_map.mpr ⟨y, hy, rfl⟩))), fun c hc => ?_⟩, fun c hc => ?_⟩
  · have hm := List.mem_of_getElem? hd
    have o := ok.ds d hm
    unfold Dn.ok at o
    simp only [Bool.and_eq_true, decide_eq_true_eq, List.isEmpty_iff] at o
    obtain ⟨⟨⟨_, o1⟩, o2⟩, o3⟩ := o
    obtain ⟨fd, q⟩ := c.def_ i (d := d.d) (by unfold Pg.fns; rw [List.getElem?_map, hd]; rfl)
    refine ⟨fd, ?_⟩
    unfold He.DefD.dvs He.DefD.kws at q
    rw [o1, o2, o3] at q
    exact q
  · exact He.glo_ok X G (fact (.glo d.d.name) (by unfold Pg.fa; exact List.mem_append_left _ (List.mem_map.mpr ⟨d, hd, rfl⟩)))
  · have hm : (x, cc) ∈ g.cons := PySem.mem_of_lookup hx
    have o := ok.cs _ hm
    have f := fact (cc.fa x) (by unfold Pg.fa; exact List.mem_append_right _ (List.mem_append_left _ (List.mem_map.mpr ⟨(x, cc), hm, rfl⟩)))
    cases cc with
    | int i =>
      obtain ⟨t, e⟩ := He.int_ok X G f
      exact ⟨_, e, t, rfl⟩
    | str z =>
      obtain ⟨t, e⟩ := He.str_ok X G f
      exact ⟨_, e, t, rfl⟩
    | none => cases o
    | bool b => cases o
  · exact He.free_ok X G (fact (.free x) (by unfold Pg.fa; exact List.mem_append_right _ (List.mem_append_right _ (List.mem_append_left _ (List.mem_map.mpr ⟨x, hx, rfl⟩)))))
  · have f1 := fx (.glo x) (List.mem_append_right _ <| List.mem_flatMap.mpr ⟨x, hx, List.mem_cons_self⟩)
    have f2 := fx (.exc x) (List.mem_append_right _ <| List.mem_flatMap.mpr ⟨x, hx, List.mem_cons_of_mem _ List.mem_cons_self⟩)
    obtain ⟨c1, c2, c3, c4⟩ := He.exc_ok f2
    exact ⟨He.glo_ok X G f1, c2, c1, c3, c4⟩
  · exact He.exm_ok (fx (.exm x y (g.subs.contains (x, y))) (List.mem_append_right _ <| List.mem_flatMap.mpr ⟨x, hx, List.mem_cons_of_mem _ (List.mem_cons_of_mem _ (List.mem_map.mpr ⟨y, hy, rfl⟩))⟩))
  · have e := List.all_eq_true.mp cx c hc
    simp only [Bool.and_eq_true, decide_eq_true_eq, List.all_eq_true] at e
    exact e.2.2 y hy
  · have e := List.all_eq_true.mp cx c hc
    simp only [Bool.and_eq_true, decide_eq_true_eq, List.all_eq_true] at e
    exact ⟨excB_ok e.1, e.2.1⟩
/-- ALL DEFS keep their promises, to any depth -/
theorem all_ok (ok : g.Ok) (hd : Hd g K mg) : ∀ (k i : Nat) (d : Dn), g.ds[i]? = some d → ∃ fd, Binds K fd d.ps [] ∧ PySem.W.keepIn K (.ref (He.ga K d.d.name)) = true ∧ FnG P w K mg base k (He.ga K d.d.name) fd d.ps (spF (callN g.P k) K i) ∧ FnX P w K mg base k (He.ga K d.d.name) fd d.ps (spX (callN g.P k) K i)
  | 0, i, d, h => by
    obtain ⟨fd, D⟩ := hd.fun_ i d h
    have no : ∀ {vs : List V} {H : Hp} {Q : VK}, spF (callN g.P 0) K i vs H Q → False := fun {vs H Q} z => by
      obtain ⟨_, _, _, _, _, e, _⟩ := z
      cases e
    have noX : ∀ {vs : List V} {H : Hp} {E : XK}, spX (callN g.P 0) K i vs H E → False := fun {vs H E} z => by
      obtain ⟨_, _, _, _, _, e, _⟩ := z
      cases e
    exact ⟨fd, FunD.bindsN D (ok.bs d (List.mem_of_getElem? h)), D.kp, ⟨fun vs H Q z => (no z).elim, fun A outer s H args us vs Q _ _ _ _ _ z => (no z).elim⟩, ⟨fun vs H E z => (noX z).elim, fun A outer s H args us vs E _ _ _ _ _ z => (noX z).elim⟩⟩
  | k + 1, i, d, h => by
    obtain ⟨fd, D⟩ := hd.fun_ i d h
    have hm := List.mem_of_getElem? h
    have o := ok.ds d hm
    unfold Dn.ok at o
    simp only [Bool.and_eq_true, decide_eq_true_eq] at o
    obtain ⟨⟨⟨⟨⟨⟨⟨o1, o2⟩, o3⟩, o4⟩, o5⟩, _⟩, _⟩, _⟩ := o
    have gf : Gf g.G (callN g.P k) k P w K mg base := by
      refine ⟨fun x f hx => ?_, hd.excs, hd.subs, hd.tcls, hd.ecs, hd.cons, fun x hx => hd.blts x (by simpa [Pg.G] using hx)⟩
      obtain ⟨j, d', h1, rfl, rfl⟩ := nameIx_of (show (nameIx g.ds 0).lookup x = some f from hx)
      obtain ⟨fd', b1, b2, b3, b4⟩ := all_ok ok hd k j d' h1
      exact ⟨_, fd', d'.ps, hd.glo d' (List.mem_of_getElem? h1), b2, b1, by rw [Nat.zero_add]; exact b3, by rw [Nat.zero_add]; exact b4⟩
    have F := def_ok D (scB_of o2) gf o1 (fun j hj => by have := List.all_eq_true.mp o3 j hj; simpa using this) o4 o5
    have e : ∀ {vs : List V} {H : Hp} {Q : VK}, spF (callN g.P (k + 1)) K i vs H Q → spR (callN g.P k) K d.fn vs H Q := fun {vs H Q} z => by
      obtain ⟨F, ws, w', fs, wd, he, hiw, q⟩ := z
      refine ⟨F, ws, w', fs, wd, ?_, hiw, q⟩
      have : g.P[i]? = some d.fn := by unfold Pg.P; rw [List.getElem?_map, h]; rfl
      simp only [callN, this] at he
      exact he
    have FX := def_okX D (scB_of o2) gf o1 o4 o5
    have eX : ∀ {vs : List V} {H : Hp} {E : XK}, spX (callN g.P (k + 1)) K i vs H E → spRX (callN g.P k) K d.fn vs H E := fun {vs H E} z => by
      obtain ⟨F, ws, c, fs, wd, he, q⟩ := z
      refine ⟨F, ws, c, fs, wd, ?_, q⟩
      have : g.P[i]? = some d.fn := by unfold Pg.P; rw [List.getElem?_map, h]; rfl
      simp only [callN, this] at he
      exact he
    exact ⟨fd, FunD.bindsN D (ok.bs d hm), D.kp, ⟨fun vs H Q z => F.len vs H Q (e z), fun A outer s H args us vs Q a b c dd ee z => F.run A outer s H args us vs Q a b c dd ee (e z)⟩, ⟨fun vs H E z => FX.len vs H E (eX z), fun A outer s H args us vs E a b c dd ee z => FX.run A outer s H args us vs E a b c dd ee (eX z)⟩⟩
end
end Bx

set_option Elab.async false
set_option linter.all false
set_option maxRecDepth 100000
set_option autoImplicit false
set_option maxHeartbeats 4000000
/-! The law's end. -/
namespace Bx
open PySem PySem.Spec PyProof.Rows L2

/-- the script, known to the object (where the module does not hold it already) -/
def scrH (K : PySem.W.Frag) (a : Addr) (vs : List Value) (ns : List Int) : Hp := fun b => if b = a ∧ K.lookup a = none then some (.frz { cls := .type "list", data := .seq vs.toArray } (.lst (ns.map V.int))) else none
theorem scrH_some {K : PySem.W.Frag} {a b : Addr} {vs : List Value} {ns : List Int} {o : HO} (h : scrH K a vs ns b = some o) : b = a ∧ K.lookup a = none ∧ o = .frz { cls := .type "list", data := .seq vs.toArray } (.lst (ns.map V.int)) := by
  unfold scrH at h
  split at h
  · rename_i c
    exact ⟨c.1, c.2, (Option.some.inj h).symm⟩
  · cases h
theorem ints_rpA {K : PySem.W.Frag} {F : Hp} : ∀ ns : List Int, RpA K F (ns.map PyData.int) (ns.map V.int)
  | [] => RpA.nil
  | n :: ns => RpA.cons rfl (ints_rpA ns)
section
variable {P : Program} {w : World} {K : PySem.W.Frag} {mg mb : Str → Option Value} {k : Nat} {fa a : Addr} {fd : FuncData} {x : Str} {C : Call} {i : Nat} {s1 : Shared} {vs : List Value} {ns : List Int} {fs : List Sl}
theorem end_call (inK : K.In s1.heap) (gl : s1.heap.Ns mainGlobals mg) (bl : s1.heap.Ns builtinsNs mb) (bb : ∀ y : Str, y ≠ "__name__" → mb y = bootBuiltins y) (nl : s1.heap.NoLimit) (gens : s1.gens = #[])
    (obj : s1.heap.get? a = some { cls := .type "list", data := .seq vs.toArray }) (are : IntsAre vs ns) (size : ns.length ≤ sizeLine) (room : Room k callerA) (quiet : callerA.guards = some [])
    (F : ∀ base : Heap, Mod K mg base → ∃ fd : FuncData, Binds K fd [x] [] ∧ FnG P w K mg base k fa fd [x] (spF C K i)) (main : C i [.fr (.list (ns.map .int))] = some (.fr (.bool true), fs)) :
    codeAny (model P w) callerA (.call (.ref fa) ⟨[.ref a], []⟩) (fun r s' => r = .ok (.ret (.bool true)) ∧ OldK s1.heap s'.heap ∧ s'.os = s1.os ∧ AllBare s'.gens) s1 := by
  have rel := vals_ints are
  have vlen := are.length
  let T : Hp := scrH K a vs ns
  have held : HOk P w T s1.heap := fun b o hb => by
    obtain ⟨rfl, _, rfl⟩ := scrH_some hb
    exact ⟨obj, by rw [List.length_map]; exact size, vs, _, rel, obj⟩
  have seen : ∀ {b : Addr} {o : Obj}, s1.heap.get? b = some o → T b = none → (hidT s1.heap T).get? b = some o := fun e z => hidT_get e z
  have notDict : ∀ {b : Addr} {o : Obj} {es : Array DictEntry} {ep : Nat}, s1.heap.get? b = some o → o.data = .dict es ep → T b = none := fun {b o es ep} e z => by
    cases q : T b with
    | none => rfl
    | some u =>
      obtain ⟨rfl, _, _⟩ := scrH_some q
      rw [obj] at e
      cases e
      exact nomatch (show Data.seq vs.toArray _ = Data.dict es ep from z)
  have names : ∀ {b : Addr} {m : Str → Option Value}, s1.heap.Ns b m → (hidT s1.heap T).Ns b m := fun {b m} z => by
    obtain ⟨o, es, ep, e1, e2, e3⟩ := z
    exact ⟨o, es, ep, seen e1 (notDict e1 e2), e2, e3⟩
  have inB : K.In (hidT s1.heap T) := fun b o e => seen (inK b o e) (by
    cases q : T b with
    | none => rfl
    | some u =>
      obtain ⟨rfl, z, _⟩ := scrH_some q
      rw [z] at e
      cases e)
  have module : Mod K mg (hidT s1.heap T) := by
    obtain ⟨mc, c1, c2⟩ := nl
    exact ⟨inB, names gl, ⟨mb, names bl, bb⟩, mc, names c1, c2⟩
  have start : Env0 P w K mg (hidT s1.heap T) callerA [] s1 T :=
    { frames := rfl, mod := module, bs := fun b o e => of_hidT e, bsz := Nat.le_of_eq (hidT_size _ _), funs := trivial, frf := fun b hb => absurd hb List.not_mem_nil, hok := held, bare := .of_eq gens }
  -- the script as data
  have frozen : ∃ F0, Same F0 T ∧ Rp K F0 (.list (ns.map .int)) (.ref a) := by
    refine ⟨T, Same.refl _, a, ns.map V.int, rfl, ?_, ints_rpA ns⟩
    cases q : K.lookup a with
    | none => exact .inl (.inr ⟨{ cls := .type "list", data := .seq vs.toArray }, if_pos ⟨rfl, q⟩⟩)
    | some o =>
      have e := inK a o q
      rw [obj] at e
      cases e
      exact .inr ⟨_, vs.toArray, _, q, rfl, rfl, rfl, by rw [List.size_toArray, vlen]; exact size, by simpa using rel⟩
  obtain ⟨F0, le0, rp0⟩ := frozen
  have prom : spF C K i [.ref a] T (fun v _ => v = .bl true) := by
    refine ⟨F0, [.fr (.list (ns.map .int))], _, fs, ⟨le0, rfl, fun j y h => ?_, fun j j' d d' b h1 _ _ _ => ?_⟩, main, rfl, fun v F' H' p => p.rp⟩
    · cases j with
      | zero => cases h; exact ⟨.ref a, rfl, rp0⟩
      | succ j => simp at h
    · cases j with
      | zero => cases h1
      | succ j => simp at h1
  obtain ⟨fd, bind, G⟩ := F _ module
  have bt := bind s1 [.ref a] inK rfl
  refine codeAny_mono (G.run callerA [] s1 T ⟨[.ref a], []⟩ [.ref a] [.ref a] _ room quiet start bt (.cons rfl .nil) prom) ?_
  intro r s' ends
  cases r with
  | error e => exact ends.elim
  | ok fl =>
    cases fl with
    | ret u =>
      obtain ⟨v, H', os, bare, un, hok', ru, q⟩ := ends
      have q' : v = .bl true := q
      subst q'
      cases (show u = Value.bool true from ru)
      refine ⟨rfl, OldK.of_keep fun b o e => ?_, os, bare⟩
      cases q : T b with
      | none => exact un.keep b o e q (fun z => absurd z List.not_mem_nil) List.not_mem_nil
      | some t =>
        obtain ⟨rfl, _, rfl⟩ := scrH_some q
        obtain ⟨e2, _⟩ := hok' b _ (un.frzs b _ _ q)
        rw [obj] at e
        cases e
        exact e2
    | next => exact False.elim ends
    | brk => exact False.elim ends
    | cont => exact False.elim ends
end
/-- the hook: the kit's own, and one more look -/
def hookB (n : Nat) (g : Pg) : PySem.W.Hook where
  α := He.AlD × Bool
  obs := fun s => (He.obsDG n g.fa g.fns s.heap.get?, g.ex (He.frG s.heap.get? (He.asD s.heap.get? n)))
  val := fun _ => (He.valD g.fns, true)
  says := fun _ h => ∃ K : PySem.W.Frag, K.In h ∧ He.SaysD g.fa g.fns K ∧ g.ex K = true
  of := fun _ _ e => ⟨_, He.frG_in, congrArg (fun z : He.AlD × Bool => z.1) e, congrArg (fun z : He.AlD × Bool => z.2) e⟩
  keeps := fun _ _ _ ⟨K, hK, c⟩ k => ⟨K, PySem.W.Frag.In.keeps hK k, c⟩
def obsBG (n : Nat) (g : Pg) (f : Addr → Option Obj) : He.AlD × Bool := (He.obsDG n g.fa g.fns f, g.ex (He.frG f (He.asD f n)))
theorem obsBG_eq {n : Nat} {g : Pg} {f : Addr → Option Obj} {s : Shared} (h : ∀ a, f a = s.heap.get? a) : obsBG n g f = (hookB n g).obs s := by
  have e : f = s.heap.get? := funext h
  rw [e] <;> rfl
/-- THE LAW: the evaluator answers True at every script -/
theorem law_walk {l : PySem.W.OpenLaw} {n k i : Nat} {q : Program} {loose : List Str} {XP : (Str → Option Value) → Heap → Prop} {d : DefRec} {x : Str} {g : Pg} {dn : Dn} {m : Nat}
    (ok : g.Ok) (hi : g.ds[i]? = some dn) (hnm : d.name = dn.d.name) (hps : dn.ps = [x]) (hn : l.most = some n) (hn2 : n ≤ sizeLine) (hdf : d.params.defaults = []) (room : Room k callerA)
    (main : ∀ ns : List Int, ns.length ≤ n → (∀ z ∈ ns, Builtin.Int.intBits z ≤ 1048576) → ∃ fs, callN g.P k i [.fr (.list (ns.map .int))] = some (.fr (.bool true), fs)) :
    PySem.W.WalkO q loose XP (hookB m g).says l.row.toRowW d [] (fun f vs => PySem.call f vs) := by
  refine Att.attach_callB hn hdf fun w s₀ s₁ mg mb fa o pm cd doc a vs ns G Y ho hd hcd hmg hobj hints hlen hbits hg => ?_
  obtain ⟨K, inK, says, cx⟩ := Y
  have H := head_facts ok inK G.T.g says cx
  have efa : fa = He.ga K dn.d.name := by
    have z := H.glo dn (List.mem_of_getElem? hi)
    rw [hnm, z] at hmg
    cases hmg
    rfl
  subst efa
  obtain ⟨fs, e⟩ := main ns hlen hbits
  refine end_call (x := x) inK G.T.g G.T.b G.T.builtins G.T.nolimit hg hobj hints (Nat.le_trans hlen hn2) room rfl (fun base mod => ?_) e
  obtain ⟨fd, b1, _, b3, _⟩ := all_ok (P := l.prog) (w := w) (base := base) ok H k i dn hi
  rw [hps] at b1 b3
  exact ⟨fd, b1, b3⟩
end Bx

set_option Elab.async false
set_option linter.all false
set_option maxRecDepth 100000
set_option autoImplicit false
set_option maxHeartbeats 4000000
/-! The evaluator step by step (rows to rewrite with), loops, data. -/
namespace Bx
open PySem PySem.Spec
def foF (C : Call) (t : Tg) (b : Ss) : PyData → Env → Option Rs := fun x r => match asgT t x r with
  | some r2 => evB C b r2
  | none => none
section
variable (C : Call) (r : Env)

@[simp] theorem e_k (c : Cn) : evE C (.k c) r = some (.fr c.d, r) := rfl
@[simp] theorem e_v (i : Nat) : evE C (.v i) r = match r[i]? with
    | some (.fr d) => some (.fr d, r)
    | some (.ow d) => some (.fr d, r.set i (.fr d))
    | _ => none := rfl
@[simp] theorem e_mv (i : Nat) : evE C (.mv i) r = match r[i]? with
    | some (.fr d) => some (.fr d, r)
    | some (.ow d) => some (.ow d, r.set i .no)
    | _ => none := rfl
@[simp] theorem e_bw (i : Nat) : evE C (.bw i) r = match r[i]? with
    | some (.fr _) => some (.lk i, r)
    | some (.ow _) => some (.lk i, r)
    | _ => none := rfl
@[simp] theorem e_ln (i : Nat) : evE C (.ln i) r = match r[i]? with
    | some (.ow _) => some (.ln i, r)
    | _ => none := rfl
@[simp] theorem e_tup (es : Exs) : evE C (.tup es) r = match evEs C es r with
    | some (ws, r1) => match fzL ws with
      | some ds => if ds.length ≤ SZ then some (.fr (.tuple ds), r1) else none
      | none => none
    | none => none := rfl
@[simp] theorem e_lst (es : Exs) : evE C (.lst es) r = match evEs C es r with
    | some (ws, r1) => match fzL ws with
      | some ds => if ds.length ≤ SZ then some (.ow (.list ds), r1) else none
      | none => none
    | none => none := rfl
@[simp] theorem e_dct (ks : List Cn) (es : Exs) : evE C (.dct ks es) r = match evEs C es r with
    | some (ws, r1) => match fzL ws with
      | some ds => if ks.length = ds.length ∧ ks.length ≤ 15 ∧ keysOk ks = true then some (.ow (.dict ((ks.map Cn.d).zip ds)), r1) else none
      | none => none
    | none => none := rfl
@[simp] theorem e_dk (k e : Ex) : evE C (.dk k e) r = match evE C k r with
    | some (.fr kd, r1) => match evE C e r1 with
      | some (w, r2) => match fz w with
        | some d => match keyD kd with
          | some _ => some (.ow (.dict [(kd, d)]), r2)
          | none => none
        | none => none
      | none => none
    | _ => none := rfl
@[simp] theorem e_bin (o : BOp) (a b : Ex) : evE C (.bin o a b) r = match evE C a r with
    | some (x, r1) => match evE C b r1 with
      | some (y, r2) => match see r2 x, see r2 y with
        | some d, some e => match binD o d e with
          | some w => some (w, r2)
          | none => none
        | _, _ => none
      | none => none
    | none => none := rfl
@[simp] theorem e_dn2 (a b : Ex) (c d : Cn) : evE C (.dn2 a b c d) r = match evE C a r with
    | some (.fr x, r1) => match evE C b r1 with
      | some (.fr y, r2) => if (topKey x).isSome = true ∧ (topKey y).isSome = true then some (.ow (.dict (dMergeN [] [(x, c.d), (y, d.d)])), r2) else none
      | _ => none
    | _ => none := rfl
@[simp] theorem e_neg (a : Ex) : evE C (.neg a) r = match evE C a r with
    | some (.fr (.int i), r1) => some (.fr (.int (-i)), r1)
    | _ => none := rfl
@[simp] theorem e_nt (a : Ex) : evE C (.nt a) r = match evE C a r with
    | some (.fr (.bool b), r1) => some (.fr (.bool (!b)), r1)
    | _ => none := rfl
@[simp] theorem e_cmp (o : COp) (a b : Ex) : evE C (.cmp o a b) r = match evE C a r with
    | some (x, r1) => match evE C b r1 with
      | some (y, r2) => match see r2 x, see r2 y with
        | some d, some e => match cmpD o d e with
          | some c => some (.fr (.bool c), r2)
          | none => none
        | _, _ => none
      | none => none
    | none => none := rfl
@[simp] theorem e_ch (o p : COp) (a b c : Ex) : evE C (.ch o p a b c) r = match evE C a r with
    | some (x, r1) => match evE C b r1 with
      | some (y, r2) => match see r2 x, see r2 y with
        | some d, some e => match cmpD o d e with
          | some true => match evE C c r2 with
            | some (z, r3) => match see r3 y, see r3 z with
              | some e', some g => match cmpD p e' g with
                | some h => some (.fr (.bool h), r3)
                | none => none
              | _, _ => none
            | none => none
          | some false => some (.fr (.bool false), r2)
          | none => none
        | _, _ => none
      | none => none
    | none => none := rfl
@[simp] theorem e_an (a b : Ex) : evE C (.an a b) r = match evE C a r with
    | some (.fr (.bool true), r1) => match evE C b r1 with
      | some (.fr (.bool c), r2) => some (.fr (.bool c), r2)
      | _ => none
    | some (.fr (.bool false), r1) => some (.fr (.bool false), r1)
    | _ => none := rfl
@[simp] theorem e_orr (a b : Ex) : evE C (.orr a b) r = match evE C a r with
    | some (.fr (.bool true), r1) => some (.fr (.bool true), r1)
    | some (.fr (.bool false), r1) => match evE C b r1 with
      | some (.fr (.bool c), r2) => some (.fr (.bool c), r2)
      | _ => none
    | _ => none := rfl
@[simp] theorem e_ix (a b : Ex) : evE C (.ix a b) r = match evE C a r with
    | some (x, r1) => match evE C b r1 with
      | some (y, r2) => match see r2 x, see r2 y with
        | some d, some e => match idxA d e with
          | some g => some (.fr g, r2)
          | none => none
        | _, _ => none
      | none => none
    | none => none := rfl
@[simp] theorem e_sl (a lo hi : Ex) : evE C (.sl a lo hi) r = match evE C a r with
    | some (x, r1) => match evE C lo r1 with
      | some (.fr y, r2) => match evE C hi r2 with
        | some (.fr z, r3) => match see r3 x, partD lo y, partD hi z with
          | some d, some l, some h => match sliceD d l h with
            | some w => some (w, r3)
            | none => none
          | _, _, _ => none
        | _ => none
      | _ => none
    | none => none := rfl
@[simp] theorem e_rep (a b : Ex) : evE C (.rep a b) r = match evE C a r with
    | some (x, r1) => match evE C b r1 with
      | some (.fr (.int k), r2) => match repD r2 x k with
        | some w => some (w, r2)
        | none => none
      | _ => none
    | none => none := rfl
@[simp] theorem e_me (m : Me) (a : Ex) (es : Exs) : evE C (.me m a es) r = match evE C a r with
    | some (x, r1) => match see r1 x with
      | some (.list _) => match evEs C es r1 with
        | some (ws, r2) => match see r2 x, seeL r2 ws with
          | some d, some ds => match meD m d ds with
            | some w => some (w, r2)
            | none => none
          | _, _ => none
        | none => none
      | _ => none
    | none => none := rfl
@[simp] theorem e_rv (a : Ex) : evE C (.rv a) r = match evE C a r with
    | some (x, r1) => match see r1 x with
      | some d => match revD d with
        | some w => some (w, r1)
        | none => none
      | none => none
    | none => none := rfl
@[simp] theorem e_dz (es : Exs) : evE C (.dz es) r = match evEs C es r with
    | some (ws, r1) => match seeL r1 ws with
      | some ds => match zipD ds with
        | some xs => match pairsN xs with
          | some ps => if ds.length = 2 ∧ xs.length ≤ SZ ∧ ps.isEmpty = false then some (.ow (.dict (dMergeN [] ps)), r1) else none
          | none => none
        | none => none
      | none => none
    | none => none := rfl
@[simp] theorem e_ss (a : Ex) : evE C (.ss a) r = match evE C a r with
    | some (w, r1) => match see r1 w with
      | some d => match itemsOf d with
        | some xs => match intsOf xs with
          | some ns => if ns.length < 4000 then some (.ow (.list ((ssL ns).map .int)), r1) else none
          | none => none
        | none => none
      | none => none
    | none => none := rfl
@[simp] theorem e_s2 (a : Ex) : evE C (.s2 a) r = match evE C a r with
    | some (w, r1) => match see r1 w with
      | some (.list xs) => match listsOf xs with
        | some ls => if ls.flatten.length ≤ SZ then some (.ow (.list ls.flatten), r1) else none
        | none => none
      | _ => none
    | none => none := rfl
@[simp] theorem e_lr1 (a : Ex) : evE C (.lr1 a) r = match evE C a r with
    | some (.fr d, r1) => match rangeD [d] with
      | some xs => if xs.length ≤ SZ then some (.ow (.list xs), r1) else none
      | none => none
    | _ => none := rfl
@[simp] theorem e_lr2 (a b : Ex) : evE C (.lr2 a b) r = match evE C a r with
    | some (.fr d, r1) => match evE C b r1 with
      | some (.fr e, r2) => match rangeD [d, e] with
        | some xs => if xs.length ≤ SZ then some (.ow (.list xs), r2) else none
        | none => none
      | _ => none
    | _ => none := rfl
@[simp] theorem e_fzn (a : Ex) : evE C (.fzn a) r = match evE C a r with
    | some (.fr d, r1) => some (.fr d, r1)
    | some (.ow (.list xs), r1) => some (.fr (.list xs), r1)
    | some (.ow (.dict xs), r1) => some (.fr (.dict xs), r1)
    | _ => none := rfl
@[simp] theorem e_lz (es : Exs) : evE C (.lz es) r = match evEs C es r with
    | some (ws, r1) => match seeL r1 ws with
      | some ds => match zipD ds with
        | some xs => if ds.length = 2 ∧ xs.length ≤ SZ then some (.ow (.list xs), r1) else none
        | none => none
      | none => none
    | none => none := rfl
@[simp] theorem e_call (f : Nat) (es : Exs) : evE C (.call f es) r = match evEs C es r with
    | some (ws, r1) => callE C f ws r1
    | none => none := rfl
@[simp] theorem e_bt (b : Bt) (es : Exs) : evE C (.bt b es) r = match evEs C es r with
    | some (ws, r1) => match seeL r1 ws with
      | some ds => match btD b ds with
        | some w => some (w, r1)
        | none => none
      | none => none
    | none => none := rfl
@[simp] theorem e_isi (a : Ex) (ts : List Ty) : evE C (.isi a ts) r = match evE C a r with
    | some (x, r1) => match see r1 x with
      | some d => some (.fr (.bool (ts.any (isTy d))), r1)
      | none => none
    | none => none := rfl
@[simp] theorem e_mu (m : Mu) (i : Nat) (es : Exs) : evE C (.mu m i es) r = match r[i]? with
    | some (.ow (.list _)) => match evEs C es r with
      | some (ws, r1) => match r1[i]? with
        | some (.ow (.list xs)) => match muA m r1 ws with
          | some ds => match muD m xs ds with
            | some (y, ys) => some (.fr y, r1.set i (.ow (.list ys)))
            | none => none
          | none => none
        | _ => none
      | none => none
    | _ => none := rfl
@[simp] theorem e_lc (t : Tg) (it : Itr) (c e : Ex) (own : List Nat) : evE C (.lc t it c e own) r = match evI C it r with
    | some (xs, hs, r1) => match compL (lcF C t c e own) xs [] (killS (hide r1 hs) own) with
      | some (ys, r5) => some (.ow (.list ys), back r1 r5 hs)
      | none => none
    | none => none := rfl
@[simp] theorem i_ov (e : Ex) : evI C (.ov e) r = match evE C e r with
    | some (w, r1) => match see r1 w with
      | some d => match itemsOf d with
        | some xs => some (xs, ownLk r1 [w], r1)
        | none => none
      | none => none
    | none => none := rfl
@[simp] theorem i_rg (es : Exs) : evI C (.rg es) r = match evEs C es r with
    | some (ws, r1) => match seeL r1 ws with
      | some ds => match rangeD ds with
        | some xs => some (xs, [], r1)
        | none => none
      | none => none
    | none => none := rfl
@[simp] theorem i_im (e : Ex) : evI C (.im e) r = match evE C e r with
    | some (w, r1) => match see r1 w with
      | some (.dict kvs) => if headN kvs = true then some (kvs.map fun kv => .tuple [kv.1, kv.2], ownLk r1 [w], r1) else none
      | _ => none
    | none => none := rfl
@[simp] theorem i_ky (e : Ex) : evI C (.ky e) r = match evE C e r with
    | some (w, r1) => match see r1 w with
      | some (.dict kvs) => if headN kvs = true then some (kvs.map fun kv => kv.1, ownLk r1 [w], r1) else none
      | _ => none
    | none => none := rfl
@[simp] theorem i_zp (es : Exs) : evI C (.zp es) r = match evEs C es r with
    | some (ws, r1) => match seeL r1 ws with
      | some ds => match zipD ds with
        | some xs => some (xs, ownLk r1 ws, r1)
        | none => none
      | none => none
    | none => none := rfl
@[simp] theorem i_en (e : Ex) : evI C (.en e) r = match evE C e r with
    | some (w, r1) => match see r1 w with
      | some d => match enumD d with
        | some xs => some (xs, ownLk r1 [w], r1)
        | none => none
      | none => none
    | none => none := rfl
@[simp] theorem s_as (t : Tg) (e : Ex) : evS C (.as t e) r = match evE C e r with
    | some (w, r1) => match asg t (frz t w) r1 with
      | some r2 => some (.nx r2)
      | none => none
    | none => none := rfl
@[simp] theorem s_par (i j : Nat) (a b : Ex) : evS C (.par i j a b) r = match evEs C (.cons a (.cons b .nil)) r with
    | some (ws, r1) => match fzL ws with
      | some [d, e] => if i ≠ j ∧ i < r1.length ∧ j < r1.length then some (.nx ((r1.set i (.fr d)).set j (.fr e))) else none
      | _ => none
    | none => none := rfl
@[simp] theorem s_sx (i : Nat) (x e : Ex) : evS C (.sx i x e) r = match evE C e r with
    | some (w, r1) => match fz w, r1[i]? with
      | some d, some (.ow _) => match evE C x r1 with
        | some (.fr k, r2) => match r2[i]? with
          | some (.ow o) => match putD o k d with
            | some o' => some (.nx (r2.set i (.ow o')))
            | none => none
          | _ => none
        | _ => none
      | _, _ => none
    | none => none := rfl
@[simp] theorem s_sw (i : Nat) (x y a b : Ex) : evS C (.sw i x y a b) r = match evEs C (.cons a (.cons b .nil)) r with
    | some (ws, r1) => match fzL ws with
      | some [d, e] => match evE C x r1 with
        | some (.fr (.int k1), r2) => match r2[i]? with
          | some (.ow (.list xs)) => match L2.ixN xs.length k1 with
            | some j1 => match evE C y (r2.set i (.ow (.list (xs.set j1 d)))) with
              | some (.fr (.int k2), r4) => match r4[i]? with
                | some (.ow (.list ys)) => match L2.ixN ys.length k2 with
                  | some j2 => match r1[i]?, r2[i]? with
                    | some (.ow _), some (.ow _) => some (.nx (r4.set i (.ow (.list (ys.set j2 e)))))
                    | _, _ => none
                  | none => none
                | _ => none
              | _ => none
            | none => none
          | _ => none
        | _ => none
      | _ => none
    | none => none := rfl
@[simp] theorem s_ex (e : Ex) : evS C (.ex e) r = match evE C e r with
    | some (_, r1) => some (.nx r1)
    | none => none := rfl
@[simp] theorem s_rt (e : Ex) : evS C (.rt e) r = match evE C e r with
    | some (.fr d, r1) => some (.rt (.fr d) r1)
    | some (.ow d, r1) => some (.rt (.ow d) r1)
    | _ => none := rfl
@[simp] theorem s_iff (c : Ex) (a b : Ss) : evS C (.iff c a b) r = match evE C c r with
    | some (.fr (.bool true), r1) => evB C a r1
    | some (.fr (.bool false), r1) => evB C b r1
    | _ => none := rfl
@[simp] theorem s_fo (t : Tg) (it : Itr) (b : Ss) (kill : List Nat) : evS C (.fo t it b kill) r = match evI C it r with
    | some (xs, hs, r1) =>
      if hs.all (fun i => !(t.st ++ b.st).contains i) then
        match forL (foF C t b) kill xs (killS (hide r1 hs) kill) with
        | some q => some (backR r1 hs q)
        | none => none
      else none
    | none => none := rfl
@[simp] theorem s_wh (c : Ex) (b : Ss) (kill : List Nat) : evS C (.wh c b kill) r = whileL (evE C c) (evB C b) kill TURNS (killS r kill) := rfl
@[simp] theorem s_nv  : evS C (.nv) r = none := rfl
@[simp] theorem es_nil : evEs C .nil r = some ([], r) := rfl
@[simp] theorem es_cons (e : Ex) (es : Exs) : evEs C (.cons e es) r = match evE C e r with
    | some (w, r1) => match evEs C es r1 with
      | some (ws, r2) => some (w :: ws, r2)
      | none => none
    | none => none := rfl
@[simp] theorem b_nil : evB C .nil r = some (.nx r) := rfl
@[simp] theorem b_cons (s : S) (q : Ss) : evB C (.cons s q) r = match evS C s r with
    | some (.nx r1) => evB C q r1
    | some (.rt w r1) => some (.rt w r1)
    | none => none := rfl
end
/-! ### small rows -/
section
variable (C : Call) (r : Env)
@[simp] theorem run_mk (np ns : Nat) (b : Ss) (asg : List Nat) (ws : List Sl) : runFn C ⟨np, ns, b, asg⟩ ws = if ws.length = np then
    if lentOk asg 0 ws then
      match evB C b (ws ++ List.replicate (ns - np) .no) with
      | some (.rt w r) => if isV w && decide (np ≤ r.length) then some (w, finals ws r) else none
      | some (.nx r) => if np ≤ r.length then some (.fr .none, finals ws r) else none
      | none => match xB C b (ws ++ List.replicate (ns - np) .no) with
        | some (c, _) => some (.rz c, [])
        | none => none
    else none
  else none := rfl
@[simp] theorem sz_0 : 0 ≤ SZ := by decide
@[simp] theorem sz_1 : 1 ≤ SZ := by decide
@[simp] theorem sz_2 : 2 ≤ SZ := by decide
@[simp] theorem sz_3 : 3 ≤ SZ := by decide
@[simp] theorem sz_4 : 4 ≤ SZ := by decide
@[simp] theorem sz_5 : 5 ≤ SZ := by decide
@[simp] theorem sz_6 : 6 ≤ SZ := by decide
@[simp] theorem sz_7 : 7 ≤ SZ := by decide
@[simp] theorem sz_8 : 8 ≤ SZ := by decide
@[simp] theorem sz_9 : 9 ≤ SZ := by decide
@[simp] theorem sz_10 : 10 ≤ SZ := by decide
@[simp] theorem sz_11 : 11 ≤ SZ := by decide
@[simp] theorem sz_12 : 12 ≤ SZ := by decide
@[simp] theorem sz_13 : 13 ≤ SZ := by decide
@[simp] theorem sz_14 : 14 ≤ SZ := by decide
@[simp] theorem sz_15 : 15 ≤ SZ := by decide
@[simp] theorem lo_nil (asg : List Nat) (i : Nat) : lentOk asg i [] = true := rfl
@[simp] theorem lo_ow (asg : List Nat) (i : Nat) (d : PyData) (ws : List Sl) : lentOk asg i (.ow d :: ws) = (!asg.contains i && lentOk asg (i + 1) ws) := rfl
@[simp] theorem lo_fr (asg : List Nat) (i : Nat) (d : PyData) (ws : List Sl) : lentOk asg i (.fr d :: ws) = lentOk asg (i + 1) ws := rfl
@[simp] theorem fi_nil (fs : List Sl) : finals [] fs = [] := by cases fs <;> rfl
@[simp] theorem fi_ow (d : PyData) (ws : List Sl) (f : Sl) (fs : List Sl) : finals (.ow d :: ws) (f :: fs) = f :: finals ws fs := rfl
@[simp] theorem fi_fr (d : PyData) (ws : List Sl) (f : Sl) (fs : List Sl) : finals (.fr d :: ws) (f :: fs) = .no :: finals ws fs := rfl
@[simp] theorem iv_fr (d : PyData) : isV (.fr d) = true := rfl
@[simp] theorem iv_ow (d : PyData) : isV (.ow d) = true := rfl
@[simp] theorem see_fr (d : PyData) : see r (.fr d) = some d := rfl
@[simp] theorem see_ow (d : PyData) : see r (.ow d) = some d := rfl
@[simp] theorem see_lk (i : Nat) : see r (.lk i) = match r[i]? with
    | some (.fr d) => some d
    | some (.ow d) => some d
    | _ => none := rfl
@[simp] theorem seeL_nil : seeL r [] = some [] := rfl
@[simp] theorem seeL_cons (w : Sl) (ws : List Sl) : seeL r (w :: ws) = match see r w, seeL r ws with
    | some d, some ds => some (d :: ds)
    | _, _ => none := rfl
@[simp] theorem fz_fr (d : PyData) : fz (.fr d) = some d := rfl
@[simp] theorem fz_ow (d : PyData) : fz (.ow d) = some d := rfl
@[simp] theorem fzL_nil : fzL [] = some [] := rfl
@[simp] theorem fzL_cons (w : Sl) (ws : List Sl) : fzL (w :: ws) = match fz w, fzL ws with
    | some d, some ds => some (d :: ds)
    | _, _ => none := rfl
@[simp] theorem d_int (i : Int) : (Cn.int i).d = .int i := rfl
@[simp] theorem d_bool (i : Bool) : (Cn.bool i).d = .bool i := rfl
@[simp] theorem d_str (i : Str) : (Cn.str i).d = .str i := rfl
@[simp] theorem d_none : Cn.none.d = .none := rfl
@[simp] theorem bin_add (i j : Int) : binD .add (.int i) (.int j) = some (.fr (.int (i + j))) := rfl
@[simp] theorem bin_adds (x y : Str) : binD .add (.str x) (.str y) = if x.length + y.length ≤ SZ then some (.fr (.str (x ++ y))) else none := rfl
@[simp] theorem bin_addt (x y : List PyData) : binD .add (.tuple x) (.tuple y) = if x.length + y.length ≤ SZ then some (.fr (.tuple (x ++ y))) else none := rfl
@[simp] theorem bin_addl (x y : List PyData) : binD .add (.list x) (.list y) = if x.length + y.length ≤ SZ then some (.ow (.list (x ++ y))) else none := rfl
@[simp] theorem bin_sub (i j : Int) : binD .sub (.int i) (.int j) = some (.fr (.int (i - j))) := rfl
@[simp] theorem bin_mul (i j : Int) : binD .mul (.int i) (.int j) = if smallI i || smallI j then some (.fr (.int (i * j))) else none := rfl
@[simp] theorem bin_fdiv (i j : Int) : binD .fdiv (.int i) (.int j) = if 0 < j ∧ j < 1073741824 then some (.fr (.int (i / j))) else none := rfl
@[simp] theorem bin_mod (i j : Int) : binD .mod (.int i) (.int j) = if 0 < j then some (.fr (.int (i % j))) else none := rfl
@[simp] theorem bin_pow (i j : Int) : binD .pow (.int i) (.int j) = if 0 ≤ j ∧ j ≤ 1000000 ∧ i.natAbs < 2 ^ 64 then some (.fr (.int (i ^ j.toNat))) else none := rfl
@[simp] theorem bin_shl (i j : Int) : binD .shl (.int i) (.int j) = if 0 ≤ j ∧ j ≤ 1000000 ∧ i.natAbs < 2 ^ 64 then some (.fr (.int (i * 2 ^ j.toNat))) else none := rfl
@[simp] theorem small_num (n : Nat) : smallI (no_index (@OfNat.ofNat Int n instOfNat)) = decide (n < 18446744073709551616) := rfl
@[simp] theorem small_0 : smallI 0 = true := by decide
@[simp] theorem small_1 : smallI 1 = true := by decide
@[simp] theorem small_neg (i : Int) : smallI (-i) = smallI i := by unfold smallI; rw [Int.natAbs_neg]
@[simp] theorem cmp_eq (x y : PyData) : cmpD .eq x y = if okD x && okD y then some (PyData.eqv x y) else none := rfl
@[simp] theorem cmp_ne (x y : PyData) : cmpD .ne x y = if okD x && okD y then some (!PyData.eqv x y) else none := rfl
@[simp] theorem cmp_lt (i j : Int) : cmpD .lt (.int i) (.int j) = some (decide (i < j)) := rfl
@[simp] theorem cmp_le (i j : Int) : cmpD .le (.int i) (.int j) = some (decide (i ≤ j)) := rfl
@[simp] theorem cmp_gt (i j : Int) : cmpD .gt (.int i) (.int j) = some (decide (j < i)) := rfl
@[simp] theorem cmp_ge (i j : Int) : cmpD .ge (.int i) (.int j) = some (decide (j ≤ i)) := rfl
@[simp] theorem cmp_isb (a b : Bool) : cmpD .is (.bool a) (.bool b) = some (a == b) := rfl
@[simp] theorem cmp_isnb (a b : Bool) : cmpD .isnot (.bool a) (.bool b) = some (!(a == b)) := rfl
@[simp] theorem cmp_isinl (x : PyData) (ys : List PyData) : cmpD .isin x (.list ys) = if okD x && okD (.list ys) then some (ys.any fun y => PyData.eqv y x) else none := rfl
@[simp] theorem cmp_isint (x : PyData) (ys : List PyData) : cmpD .isin x (.tuple ys) = if okD x && okD (.tuple ys) then some (ys.any fun y => PyData.eqv y x) else none := rfl
@[simp] theorem cmp_notinl (x : PyData) (ys : List PyData) : cmpD .notin x (.list ys) = if okD x && okD (.list ys) then some (!ys.any fun y => PyData.eqv y x) else none := rfl
@[simp] theorem cmp_notint (x : PyData) (ys : List PyData) : cmpD .notin x (.tuple ys) = if okD x && okD (.tuple ys) then some (!ys.any fun y => PyData.eqv y x) else none := rfl
@[simp] theorem idx_l (xs : List PyData) (i : Int) : idxD (.list xs) (.int i) = L2.atI xs i := rfl
@[simp] theorem idx_t (xs : List PyData) (i : Int) : idxD (.tuple xs) (.int i) = L2.atI xs i := rfl
@[simp] theorem ia_l (xs : List PyData) (k : PyData) : idxA (.list xs) k = idxD (.list xs) k := rfl
@[simp] theorem ia_t (xs : List PyData) (k : PyData) : idxA (.tuple xs) k = idxD (.tuple xs) k := rfl
@[simp] theorem ia_d (xs : List (PyData × PyData)) (k : PyData) : idxA (.dict xs) k = match keyD k with
    | some q => dGet xs q
    | none => idxD (.dict xs) k := rfl
@[simp] theorem kd_i (i : Int) : keyD (.int i) = some (.inl i) := rfl
@[simp] theorem kd_s (i : Str) : keyD (.str i) = some (.inr i) := rfl
@[simp] theorem dg_nil (q : Sum Int Str) : dGet [] q = none := rfl
@[simp] theorem dg_cons (kv : PyData × PyData) (l : List (PyData × PyData)) (q : Sum Int Str) : dGet (kv :: l) q = if keyD kv.1 = some q then some kv.2 else dGet l q := rfl
@[simp] theorem dp_eq (kvs : List (PyData × PyData)) (k : PyData) (q : Sum Int Str) (d : PyData) : dPut kvs k q d = if (kvs.any fun kv => decide (keyD kv.1 = some q)) = true then kvs.map (fun kv => if keyD kv.1 = some q then (kv.1, d) else kv) else kvs ++ [(k, d)] := rfl
@[simp] theorem pd_l (xs : List PyData) (k : Int) (d : PyData) : putD (.list xs) (.int k) d = match L2.ixN xs.length k with
    | some j => some (.list (xs.set j d))
    | none => none := rfl
@[simp] theorem pd_d (kvs : List (PyData × PyData)) (k d : PyData) : putD (.dict kvs) k d = match keyD k with
    | some q => if kvs.length < SZ ∧ headN kvs = false then some (.dict (dPut kvs k q d)) else none
    | none => match topKey k with
      | some q => if kvs.length < SZ ∧ (kvs.isEmpty || headN kvs) = true then some (.dict (dPutN kvs k q d)) else none
      | none => none := rfl
@[simp] theorem ko_nil : keysOk [] = true := rfl
@[simp] theorem ko_cons (c : Cn) (cs : List Cn) : keysOk (c :: cs) = ((keyD c.d).isSome && !(cs.any fun c' => decide (keyD c'.d = keyD c.d)) && keysOk cs) := rfl
@[simp] theorem part_none (d : PyData) : partD (.k .none) d = some none := rfl
@[simp] theorem sl_l (xs : List PyData) (lo hi : Option Int) : sliceD (.list xs) lo hi = some (.ow (.list (cutL xs lo hi))) := rfl
@[simp] theorem sl_t (xs : List PyData) (lo hi : Option Int) : sliceD (.tuple xs) lo hi = some (.fr (.tuple (cutL xs lo hi))) := rfl
theorem part_int (e : Ex) (h : isNoneE e = false) (i : Int) : partD e (.int i) = some (some i) := by unfold partD; rw [h]; rfl
@[simp] theorem part_k (c i : Int) : partD (.k (.int c)) (.int i) = some (some i) := rfl
@[simp] theorem part_v (j : Nat) (i : Int) : partD (.v j) (.int i) = some (some i) := rfl
@[simp] theorem part_bin (o : BOp) (a b : Ex) (i : Int) : partD (.bin o a b) (.int i) = some (some i) := rfl
@[simp] theorem part_ix (a b : Ex) (i : Int) : partD (.ix a b) (.int i) = some (some i) := rfl
@[simp] theorem part_neg (a : Ex) (i : Int) : partD (.neg a) (.int i) = some (some i) := rfl
@[simp] theorem part_bt (a : Bt) (es : Exs) (i : Int) : partD (.bt a es) (.int i) = some (some i) := rfl
@[simp] theorem part_call (a : Nat) (es : Exs) (i : Int) : partD (.call a es) (.int i) = some (some i) := rfl
@[simp] theorem ints_map (l : List Int) : intsOf (l.map PyData.int) = some l := by
  induction l with
  | nil => rfl
  | cons x l ih => simp [intsOf, ih]
@[simp] theorem ints_nil : intsOf [] = some [] := rfl
@[simp] theorem ints_cons (i : Int) (l : List PyData) : intsOf (.int i :: l) = match intsOf l with
    | some l => some (i :: l)
    | none => none := rfl
@[simp] theorem bools_map (l : List Bool) : boolsOf (l.map PyData.bool) = some l := by
  induction l with
  | nil => rfl
  | cons x l ih => simp [boolsOf, ih]
@[simp] theorem bt_lenl (xs : List PyData) : btD .len [.list xs] = some (.fr (.int xs.length)) := rfl
@[simp] theorem bt_lent (xs : List PyData) : btD .len [.tuple xs] = some (.fr (.int xs.length)) := rfl
@[simp] theorem bt_sum1 (xs : List PyData) : btD .sum1 [.list xs] = match intsOf xs with
    | some ns => some (.fr (.int ns.sum))
    | none => none := rfl
@[simp] theorem bt_min1 (xs : List PyData) : btD .min1 [.list xs] = match intsOf xs with
  | some (n :: ns) => some (.fr (.int (ns.foldl min n)))
  | some [] => none
  | none => leastD xs := rfl
@[simp] theorem bt_max1 (xs : List PyData) : btD .max1 [.list xs] = match intsOf xs with
  | some (n :: ns) => some (.fr (.int (ns.foldl max n)))
  | some [] => none
  | none => mostD xs := rfl
@[simp] theorem bt_min2 (i j : Int) : btD .min2 [.int i, .int j] = some (.fr (.int (min i j))) := rfl
@[simp] theorem bt_max2 (i j : Int) : btD .max2 [.int i, .int j] = some (.fr (.int (max i j))) := rfl
@[simp] theorem bt_abs (i : Int) : btD .abs [.int i] = some (.fr (.int (i.natAbs : Int))) := rfl
@[simp] theorem bt_int (i : Int) : btD .int1 [.int i] = some (.fr (.int i)) := rfl
@[simp] theorem bt_intb (b : Bool) : btD .int1 [.bool b] = some (.fr (.int (if b then 1 else 0))) := rfl
@[simp] theorem bt_sorted (xs : List PyData) : btD .sorted [.list xs] = if sortOk xs then some (.ow (.list (xs.mergeSort (PySem.W.dataLe false id)))) else none := rfl
@[simp] theorem bt_repr (x : PyData) : btD .repr [x] = if reprOk x then some (.fr (.str x.shown)) else none := rfl
@[simp] theorem bt_list (xs : List PyData) : btD .list1 [.list xs] = some (.ow (.list xs)) := rfl
@[simp] theorem bt_listt (xs : List PyData) : btD .list1 [.tuple xs] = some (.ow (.list xs)) := rfl
@[simp] theorem bt_tup (xs : List PyData) : btD .tuple1 [.list xs] = some (.fr (.tuple xs)) := rfl
@[simp] theorem bt_tupt (xs : List PyData) : btD .tuple1 [.tuple xs] = some (.fr (.tuple xs)) := rfl
@[simp] theorem bt_all (xs : List PyData) : btD .all [.list xs] = match boolsOf xs with
    | some bs => some (.fr (.bool (bs.all id)))
    | none => none := rfl
@[simp] theorem bt_any (xs : List PyData) : btD .any [.list xs] = match boolsOf xs with
    | some bs => some (.fr (.bool (bs.any id)))
    | none => none := rfl
@[simp] theorem mu_append (xs : List PyData) (y : PyData) : muD .append xs [y] = if xs.length < SZ then some (.none, xs ++ [y]) else none := rfl
@[simp] theorem mu_extend (xs ys : List PyData) : muD .extend xs [.list ys] = if xs.length + ys.length ≤ SZ then some (.none, xs ++ ys) else none := rfl
@[simp] theorem mu_pop (xs : List PyData) : muD .pop xs [] = match xs[xs.length - 1]? with
    | some y => some (y, xs.dropLast)
    | none => none := rfl
@[simp] theorem mu_reverse (xs : List PyData) : muD .reverse xs [] = some (.none, xs.reverse) := rfl
@[simp] theorem mu_clear (xs : List PyData) : muD .clear xs [] = some (.none, []) := rfl
@[simp] theorem mua_ext (ws : List Sl) : muA .extend r ws = seeL r ws := rfl
@[simp] theorem mua_app (ws : List Sl) : muA .append r ws = fzL ws := rfl
@[simp] theorem mua_pop (ws : List Sl) : muA .pop r ws = fzL ws := rfl
@[simp] theorem mua_rev (ws : List Sl) : muA .reverse r ws = fzL ws := rfl
@[simp] theorem mua_clr (ws : List Sl) : muA .clear r ws = fzL ws := rfl
@[simp] theorem at_nm (i : Nat) (d : PyData) : asgT (.nm i) d r = if i < r.length then some (r.set i (.fr d)) else none := rfl
@[simp] theorem at_tup (a b : Tg) (x : PyData) (xs : List PyData) : asgT (.tup a b) (.tuple (x :: xs)) r = match asgT a x r with
    | some r1 => asgT b (.tuple xs) r1
    | none => none := rfl
@[simp] theorem at_tupn : asgT .tupn (.tuple []) r = some r := rfl
@[simp] theorem as_nmf (i : Nat) (d : PyData) : asg (.nm i) (.fr d) r = if i < r.length then some (r.set i (.fr d)) else none := rfl
@[simp] theorem as_nmo (i : Nat) (d : PyData) : asg (.nm i) (.ow d) r = if i < r.length then some (r.set i (.ow d)) else none := rfl
@[simp] theorem as_tupf (a b : Tg) (d : PyData) : asg (.tup a b) (.fr d) r = asgT (.tup a b) d r := rfl
@[simp] theorem as_tupl (a b : Tg) (i : Nat) : asg (.tup a b) (.lk i) r = match see r (.lk i) with
    | some (.tuple ds) => asgT (.tup a b) (.tuple ds) r
    | _ => none := rfl
@[simp] theorem frz_nm (i : Nat) (w : Sl) : frz (.nm i) w = w := rfl
@[simp] theorem frz_ow (a b : Tg) (d : PyData) : frz (.tup a b) (.ow d) = .fr d := rfl
@[simp] theorem frz_fr (a b : Tg) (d : PyData) : frz (.tup a b) (.fr d) = .fr d := rfl
@[simp] theorem frz_lk (a b : Tg) (i : Nat) : frz (.tup a b) (.lk i) = .lk i := rfl
@[simp] theorem ar_fr (d : PyData) : argOf r (.fr d) = some (.fr d) := rfl
@[simp] theorem ar_ow (d : PyData) : argOf r (.ow d) = some (.fr d) := rfl
@[simp] theorem ar_lk (i : Nat) : argOf r (.lk i) = match r[i]? with
    | some (.fr d) => some (.fr d)
    | some (.ow d) => some (.fr d)
    | _ => none := rfl
@[simp] theorem ar_ln (i : Nat) : argOf r (.ln i) = match r[i]? with
    | some (.ow d) => some (.ow d)
    | _ => none := rfl
@[simp] theorem ars_nil : argsOf r [] = some [] := rfl
@[simp] theorem ars_cons (w : Sl) (ws : List Sl) : argsOf r (w :: ws) = match argOf r w, argsOf r ws with
    | some a, some l => some (a :: l)
    | _, _ => none := rfl
@[simp] theorem le_nil : lents [] = [] := rfl
@[simp] theorem le_fr (d : PyData) (ws : List Sl) : lents (.fr d :: ws) = lents ws := rfl
@[simp] theorem le_ow (d : PyData) (ws : List Sl) : lents (.ow d :: ws) = lents ws := rfl
@[simp] theorem le_lk (d : Nat) (ws : List Sl) : lents (.lk d :: ws) = lents ws := rfl
@[simp] theorem le_ln (d : Nat) (ws : List Sl) : lents (.ln d :: ws) = d :: lents ws := rfl
@[simp] theorem ol_nil : ownLk r [] = [] := rfl
@[simp] theorem ol_fr (d : PyData) (ws : List Sl) : ownLk r (.fr d :: ws) = ownLk r ws := rfl
@[simp] theorem ol_ow (d : PyData) (ws : List Sl) : ownLk r (.ow d :: ws) = ownLk r ws := rfl
@[simp] theorem ol_ln (d : Nat) (ws : List Sl) : ownLk r (.ln d :: ws) = ownLk r ws := rfl
@[simp] theorem ol_lk (i : Nat) (ws : List Sl) : ownLk r (.lk i :: ws) = match r[i]? with
    | some (.ow _) => i :: ownLk r ws
    | _ => ownLk r ws := rfl
@[simp] theorem nd_nil : nodupB [] = true := rfl
@[simp] theorem nd_cons (i : Nat) (l : List Nat) : nodupB (i :: l) = (!l.contains i && nodupB l) := rfl
@[simp] theorem gb_nil (fs : List Sl) : giveBack r [] fs = r := by cases fs <;> rfl
@[simp] theorem gb_ln (i : Nat) (ws : List Sl) (f : Sl) (fs : List Sl) : giveBack r (.ln i :: ws) (f :: fs) = giveBack (r.set i f) ws fs := rfl
@[simp] theorem gb_lk (i : Nat) (ws : List Sl) (f : Sl) (fs : List Sl) : giveBack r (.lk i :: ws) (f :: fs) = giveBack r ws fs := rfl
@[simp] theorem gb_fr (i : PyData) (ws : List Sl) (f : Sl) (fs : List Sl) : giveBack r (.fr i :: ws) (f :: fs) = giveBack r ws fs := rfl
@[simp] theorem gb_ow (i : PyData) (ws : List Sl) (f : Sl) (fs : List Sl) : giveBack r (.ow i :: ws) (f :: fs) = giveBack r ws fs := rfl
@[simp] theorem fa_nil : freezeAt r [] = r := rfl
@[simp] theorem fa_cons (i : Nat) (l : List Nat) : freezeAt r (i :: l) = match r[i]? with
    | some (.ow d) => freezeAt (r.set i (.fr d)) l
    | _ => freezeAt r l := rfl
@[simp] theorem ca_eq (f : Nat) (ws : List Sl) : callE C f ws r = match argsOf r ws with
  | none => none
  | some as =>
    if nodupB (lents ws) && (ownLk r ws).all fun i => !(lents ws).contains i then
      match C f as with
      | none => none
      | some (w, fs) =>
        if isV w && decide (fs.length = ws.length) then
          if flatW w && fs.all flatW then some (w, giveBack r ws fs)
          else some (w, giveBack (freezeAt r (ownLk r ws)) ws fs)
        else none
    else none := rfl
@[simp] theorem fw_fr (d : PyData) : flatW (.fr d) = flat d := rfl
@[simp] theorem fw_no : flatW .no = true := rfl
@[simp] theorem fw_ow (xs : List PyData) : flatW (.ow (.list xs)) = flatAll xs := rfl
@[simp] theorem fl_int (i : Int) : flat (.int i) = true := rfl
@[simp] theorem fl_bool (i : Bool) : flat (.bool i) = true := rfl
@[simp] theorem fl_str (i : Str) : flat (.str i) = true := rfl
@[simp] theorem fl_none : flat .none = true := rfl
@[simp] theorem fl_list (xs : List PyData) : flat (.list xs) = false := rfl
@[simp] theorem fl_tup (xs : List PyData) : flat (.tuple xs) = flatAll xs := rfl
@[simp] theorem fl_nil : flatAll [] = true := rfl
@[simp] theorem fl_cons (x : PyData) (xs : List PyData) : flatAll (x :: xs) = (flat x && flatAll xs) := rfl
@[simp] theorem fl_map {α : Type} (g : α → PyData) (h : ∀ a, flat (g a) = true) (l : List α) : flatAll (l.map g) = true := by
  induction l with
  | nil => rfl
  | cons x l ih => rw [List.map_cons, fl_cons, h, ih]; rfl
@[simp] theorem hi_nil : hide r [] = r := rfl
@[simp] theorem hi_cons (i : Nat) (l : List Nat) : hide r (i :: l) = hide (r.set i .no) l := rfl
@[simp] theorem ki_nil : killS r [] = r := rfl
@[simp] theorem ki_cons (i : Nat) (l : List Nat) : killS r (i :: l) = killS (r.set i .no) l := rfl
@[simp] theorem ba_nil (o : Env) : back o r [] = r := rfl
@[simp] theorem ba_cons (o : Env) (i : Nat) (l : List Nat) : back o r (i :: l) = back o (r.set i (o.getD i .no)) l := rfl
@[simp] theorem br_nx (o : Env) (hs : List Nat) : backR o hs (.nx r) = .nx (back o r hs) := rfl
@[simp] theorem br_rt (o : Env) (hs : List Nat) (w : Sl) : backR o hs (.rt w r) = .rt w (back o r hs) := rfl
@[simp] theorem st_as (t : Tg) (e : Ex) : (S.as t e).st = t.st := rfl
@[simp] theorem st_par (i j : Nat) (a b : Ex) : (S.par i j a b).st = [i, j] := rfl
@[simp] theorem st_sx (i : Nat) (a b : Ex) : (S.sx i a b).st = [] := rfl
@[simp] theorem st_ex (e : Ex) : (S.ex e).st = [] := rfl
@[simp] theorem st_rt (e : Ex) : (S.rt e).st = [] := rfl
@[simp] theorem st_nv : S.nv.st = [] := rfl
@[simp] theorem st_iff (e : Ex) (a b : Ss) : (S.iff e a b).st = a.st ++ b.st := rfl
@[simp] theorem st_fo (t : Tg) (it : Itr) (b : Ss) (k : List Nat) : (S.fo t it b k).st = t.st ++ b.st := rfl
@[simp] theorem st_wh (c : Ex) (b : Ss) (k : List Nat) : (S.wh c b k).st = b.st := rfl
@[simp] theorem st_nil : Ss.nil.st = [] := rfl
@[simp] theorem st_cons (s : S) (q : Ss) : (Ss.cons s q).st = s.st ++ q.st := rfl
@[simp] theorem st_nm (i : Nat) : (Tg.nm i).st = [i] := rfl
@[simp] theorem st_tup (a b : Tg) : (Tg.tup a b).st = a.st ++ b.st := rfl
@[simp] theorem st_tupn : Tg.tupn.st = [] := rfl
@[simp] theorem ti_i (i : Int) : isTy (.int i) .int = true := rfl
@[simp] theorem ti_b (i : Bool) : isTy (.bool i) .int = true := rfl
@[simp] theorem ti_bb (i : Bool) : isTy (.bool i) .bool = true := rfl
@[simp] theorem ti_ib (i : Int) : isTy (.int i) .bool = false := rfl
@[simp] theorem ti_is (i : Int) : isTy (.int i) .str = false := rfl
@[simp] theorem ti_il (i : Int) : isTy (.int i) .list = false := rfl
@[simp] theorem ti_it (i : Int) : isTy (.int i) .tuple = false := rfl
@[simp] theorem ti_ll (i : List PyData) : isTy (.list i) .list = true := rfl
@[simp] theorem ti_lt (i : List PyData) : isTy (.list i) .tuple = false := rfl
@[simp] theorem ti_tt (i : List PyData) : isTy (.tuple i) .tuple = true := rfl
@[simp] theorem ti_tl (i : List PyData) : isTy (.tuple i) .list = false := rfl
@[simp] theorem ti_ti (i : List PyData) : isTy (.tuple i) .int = false := rfl
@[simp] theorem ti_li (i : List PyData) : isTy (.list i) .int = false := rfl
@[simp] theorem items_l (xs : List PyData) : itemsOf (.list xs) = some xs := rfl
@[simp] theorem items_t (xs : List PyData) : itemsOf (.tuple xs) = some xs := rfl
@[simp] theorem rg_1 (j : Int) : rangeD [.int j] = if -(2 ^ 62) ≤ j ∧ j < 2 ^ 62 then some ((List.range j.toNat).map fun (i : Nat) => .int (i : Int)) else none := rfl
@[simp] theorem rg_2 (a b : Int) : rangeD [.int a, .int b] = if -(2 ^ 62) ≤ a ∧ a < 2 ^ 62 ∧ -(2 ^ 62) ≤ b ∧ b < 2 ^ 62 then some ((List.range (b - a).toNat).map fun (i : Nat) => .int (a + (i : Int))) else none := rfl
@[simp] theorem zp_2 (a b : PyData) : zipD [a, b] = match itemsOf a, itemsOf b with
    | some xs, some ys => some ((xs.zip ys).map fun p => .tuple [p.1, p.2])
    | _, _ => none := rfl
@[simp] theorem zp_3 (a b c : PyData) : zipD [a, b, c] = match itemsOf a, itemsOf b, itemsOf c with
    | some xs, some ys, some zs => some ((xs.zip (ys.zip zs)).map fun p => .tuple [p.1, p.2.1, p.2.2])
    | _, _, _ => none := rfl
@[simp] theorem en_l (xs : List PyData) : enumD (.list xs) = some (enumFrom 0 xs) := rfl
@[simp] theorem fo_eq (t : Tg) (b : Ss) (x : PyData) : foF C t b x r = match asgT t x r with
  | some r2 => evB C b r2
  | none => none := rfl
@[simp] theorem at3_0 {α : Type} (x y z : α) : L2.atI [x, y, z] 0 = some x := rfl
@[simp] theorem at3_1 {α : Type} (x y z : α) : L2.atI [x, y, z] 1 = some y := rfl
@[simp] theorem at3_2 {α : Type} (x y z : α) : L2.atI [x, y, z] 2 = some z := rfl
@[simp] theorem at2_0 {α : Type} (x y : α) : L2.atI [x, y] 0 = some x := rfl
@[simp] theorem at2_1 {α : Type} (x y : α) : L2.atI [x, y] 1 = some y := rfl
@[simp] theorem at1_0 {α : Type} (x : α) : L2.atI [x] 0 = some x := rfl
@[simp] theorem ix3_0 : L2.ixN 3 0 = some 0 := rfl
@[simp] theorem ix3_1 : L2.ixN 3 1 = some 1 := rfl
@[simp] theorem ix3_2 : L2.ixN 3 2 = some 2 := rfl
end
theorem small_in {i : Int} (h1 : -18446744073709551616 < i) (h2 : i < 18446744073709551616) : smallI i = true := by
  unfold smallI
  exact decide_eq_true (by omega)
theorem ixN_in {n : Nat} {i : Int} (h0 : 0 ≤ i) (h1 : i < n) : L2.ixN n i = some i.toNat := by
  unfold L2.ixN
  rw [if_pos h0, if_pos h1]
theorem atI_in {α : Type} {xs : List α} {i : Int} (h0 : 0 ≤ i) (h1 : i < xs.length) : ∃ x, L2.atI xs i = some x ∧ x ∈ xs := by
  unfold L2.atI
  rw [ixN_in h0 h1]
  have : i.toNat < xs.length := by omega
  exact ⟨xs[i.toNat], by simp [List.getElem?_eq_getElem this], List.getElem_mem this⟩
theorem atI_map {α β : Type} {xs : List α} {g : α → β} {i : Int} : L2.atI (xs.map g) i = (L2.atI xs i).map g := by
  unfold L2.atI
  rw [List.length_map]
  cases L2.ixN xs.length i with
  | none => rfl
  | some j => simp
theorem atI_nat {α : Type} {xs : List α} (i : Nat) : L2.atI xs (i : Int) = xs[i]? := by
  unfold L2.atI
  by_cases h : i < xs.length
  · rw [ixN_in (by omega) (by omega)]
    simp
  · unfold L2.ixN
    rw [if_pos (by omega), if_neg (by omega), List.getElem?_eq_none (by omega)]
    rfl
/-! ### loops -/
theorem while_inv {c : Env → Option (Sl × Env)} {b : Env → Option Rs} {kill : List Nat} {St : Type} (env : St → Env) (P : St → Prop) (Q : Env → Prop) (μ : St → Nat)
    (H : ∀ s, P s → (∃ r1, c (env s) = some (.fr (.bool false), r1) ∧ Q r1) ∨ (∃ r1 r2 s', c (env s) = some (.fr (.bool true), r1) ∧ b r1 = some (.nx r2) ∧ killS r2 kill = env s' ∧ P s' ∧ μ s' < μ s)) :
    ∀ (n : Nat) (s : St), P s → μ s < n → ∃ r, whileL c b kill n (env s) = some (.nx r) ∧ Q r
  | 0, s, _, h => absurd h (Nat.not_lt_zero _)
  | n + 1, s, p, h => by
    rcases H s p with ⟨r1, h1, q⟩ | ⟨r1, r2, s', h1, h2, h3, p', hm⟩
    · exact ⟨r1, by simp only [whileL, h1], q⟩
    · obtain ⟨r, e, q⟩ := while_inv env P Q μ H n s' p' (by omega)
      refine ⟨r, ?_, q⟩
      simp only [whileL, h1, h2, h3]
      exact e
theorem for_inv {f : PyData → Env → Option Rs} {kill : List Nat} {α St : Type} (g : α → PyData) (env : St → Env) (step : St → α → St) (P : List α → St → Prop) :
    ∀ (l : List α) (s : St), P l s → (∀ a l' s, P (a :: l') s → P l' (step s a) ∧ ∃ r2, f (g a) (env s) = some (.nx r2) ∧ killS r2 kill = env (step s a)) →
      forL f kill (l.map g) (env s) = some (.nx (env (l.foldl step s))) ∧ P [] (l.foldl step s)
  | [], s, p, _ => ⟨rfl, p⟩
  | a :: l, s, p, H => by
    obtain ⟨p', r2, h1, h2⟩ := H a l s p
    obtain ⟨e, q⟩ := for_inv g env step P l (step s a) p' H
    refine ⟨?_, q⟩
    rw [List.map_cons]
    simp only [forL, h1, h2]
    exact e
/-- each turn comes through -/
theorem for_each {f : PyData → Env → Option Rs} {kill : List Nat} {α : Type} (g : α → PyData) (I : Env → Prop) :
    ∀ (l : List α) (r : Env), I r → (∀ a ∈ l, ∀ r, I r → ∃ r2, f (g a) r = some (.nx r2) ∧ I (killS r2 kill)) → ∃ r', forL f kill (l.map g) r = some (.nx r') ∧ I r'
  | [], r, i, _ => ⟨r, rfl, i⟩
  | a :: l, r, i, H => by
    obtain ⟨r2, h1, i2⟩ := H a List.mem_cons_self r i
    obtain ⟨r', e, i'⟩ := for_each g I l _ i2 fun b hb => H b (List.mem_cons_of_mem _ hb)
    refine ⟨r', ?_, i'⟩
    rw [List.map_cons]
    simp only [forL, h1]
    exact e
theorem for_same {f : PyData → Env → Option Rs} {kill : List Nat} {α : Type} (g : α → PyData) (env : Env) : ∀ (l : List α), (∀ a ∈ l, ∃ r2, f (g a) env = some (.nx r2) ∧ killS r2 kill = env) → forL f kill (l.map g) env = some (.nx env)
  | [], _ => rfl
  | a :: l, H => by
    obtain ⟨r2, h1, h2⟩ := H a List.mem_cons_self
    rw [List.map_cons]
    simp only [forL, h1, h2]
    exact for_same g env l fun b hb => H b (List.mem_cons_of_mem _ hb)
theorem comp_map {C : Call} {t : Tg} {c e : Ex} {own : List Nat} {α : Type} (g : α → PyData) (h : α → PyData) (r : Env)
    : ∀ (l : List α) (acc : List PyData), acc.length + l.length ≤ SZ → (∀ a ∈ l, ∃ r2 w r4, asgT t (g a) (killS r own) = some r2 ∧ evE C c r2 = some (.fr (.bool true), r2) ∧ evE C e r2 = some (w, r4) ∧ fz w = some (h a) ∧ killS r4 own = r) →
      compL (lcF C t c e own) (l.map g) acc r = some (acc ++ l.map h, r)
  | [], acc, _, _ => by simp [compL]
  | a :: l, acc, hz, H => by
    obtain ⟨r2, w, r4, h1, h2, h3, h4, h5⟩ := H a List.mem_cons_self
    have := comp_map g h r l (acc ++ [h a]) (by simp at hz ⊢; omega) fun b hb => H b (List.mem_cons_of_mem _ hb)
    rw [List.map_cons]
    have e1 : lcF C t c e own (g a) r = some (some (h a), r) := by
      unfold lcF
      simp only [h1, h2, h3, h4, h5]
    have hz' : acc.length < SZ := by simp at hz; omega
    simp only [compL, e1, if_pos hz']
    rw [this]
    simp
theorem comp_filter {C : Call} {t : Tg} {c e : Ex} {own : List Nat} {α : Type} (g : α → PyData) (p : α → Bool) (h : α → PyData) (r : Env)
    : ∀ (l : List α) (acc : List PyData), acc.length + l.length ≤ SZ → (∀ a ∈ l, ∃ r2 r3, asgT t (g a) (killS r own) = some r2 ∧ evE C c r2 = some (.fr (.bool (p a)), r3) ∧ killS r3 own = r ∧ (p a = true → ∃ w r4, evE C e r3 = some (w, r4) ∧ fz w = some (h a) ∧ killS r4 own = r)) →
      compL (lcF C t c e own) (l.map g) acc r = some (acc ++ (l.filter p).map h, r)
  | [], acc, _, _ => by simp [compL]
  | a :: l, acc, hz, H => by
    obtain ⟨r2, r3, h1, h2, h3, h4⟩ := H a List.mem_cons_self
    have hz' : acc.length < SZ := by simp at hz; omega
    rw [List.map_cons]
    cases hp : p a with
    | true =>
      obtain ⟨w, r4, h5, h6, h7⟩ := h4 hp
      have := comp_filter g p h r l (acc ++ [h a]) (by simp at hz ⊢; omega) fun b hb => H b (List.mem_cons_of_mem _ hb)
      have e1 : lcF C t c e own (g a) r = some (some (h a), r) := by
        unfold lcF
        simp only [h1, h2, hp, h5, h6, h7]
      simp only [compL, e1, if_pos hz']
      rw [this]
      simp [hp]
    | false =>
      have := comp_filter g p h r l acc (by simp at hz ⊢; omega) fun b hb => H b (List.mem_cons_of_mem _ hb)
      have e1 : lcF C t c e own (g a) r = some (none, r) := by
        unfold lcF
        simp only [h1, h2, hp, h3]
      simp only [compL, e1]
      rw [this]
      simp [hp]
end Bx

set_option Elab.async false
set_option linter.all false
set_option maxRecDepth 100000
set_option autoImplicit false
set_option maxHeartbeats 4000000
/-! Data with a Lean type: equal, sorted, shown. -/
namespace Bx
open PySem PySem.Spec PySem.W

mutual
/-- a bound of the text that shows it -/
def cost : PyData → Nat
  | .none => 4
  | .bool _ => 5
  | .int i => i.natAbs.log2 + 2
  | .str x => (PyData.shown (.str x)).length
  | .list xs => costAll xs + 3
  | .tuple xs => costAll xs + 3
  | .dict kvs => (PyData.shown (.dict kvs)).length
def costAll : List PyData → Nat
  | [] => 0
  | x :: xs => cost x + 2 + costAll xs
end
theorem int_len (i : Int) : (PyData.shown (.int i)).length ≤ i.natAbs.log2 + 2 := by
  have h := int_text_length_le (a := i) (k := i.natAbs.log2 + 1) (by omega) (by omega)
  have e : (PyData.shown (.int i)).length = (toString i).length := ofString_length _
  rw [e]
  omega
mutual
theorem shown_len : ∀ d : PyData, d.shown.length ≤ cost d
  | .none => by decide +kernel
  | .bool b => by cases b <;> decide +kernel
  | .int i => int_len i
  | .str x => Nat.le_refl _
  | .list xs => by
    have := listText_len_le (PyData.shownAll xs)
    have h := shownAll_len xs
    show (listText (PyData.shownAll xs)).length ≤ costAll xs + 3
    omega
  | .tuple xs => by
    have := tupleText_len_le (PyData.shownAll xs)
    have h := shownAll_len xs
    show (tupleText (PyData.shownAll xs)).length ≤ costAll xs + 3
    omega
  | .dict kvs => Nat.le_refl _
theorem shownAll_len : ∀ xs : List PyData, ((PyData.shownAll xs).map (·.length)).sum + 2 * (PyData.shownAll xs).length ≤ costAll xs
  | [] => Nat.le_refl _
  | x :: xs => by
    have h1 := shown_len x
    have h2 := shownAll_len xs
    show (x.shown.length + ((PyData.shownAll xs).map (·.length)).sum) + 2 * ((PyData.shownAll xs).length + 1) ≤ cost x + 2 + costAll xs
    omega
end
theorem costAll_map {α : Type} (g : α → PyData) (n : Nat) (l : List α) (h : ∀ a ∈ l, cost (g a) ≤ n) : costAll (l.map g) ≤ l.length * (n + 2) := by
  induction l with
  | nil => exact Nat.zero_le _
  | cons x l ih =>
    have h1 := h x List.mem_cons_self
    have h2 := ih fun a ha => h a (List.mem_cons_of_mem _ ha)
    show cost (g x) + 2 + costAll (l.map g) ≤ (l.length + 1) * (n + 2)
    rw [Nat.succ_mul]
    omega
theorem cost_int {i : Int} {k : Nat} (h : i.natAbs < 2 ^ k) : cost (.int i) ≤ k + 2 := by
  show i.natAbs.log2 + 2 ≤ k + 2
  by_cases h0 : i.natAbs = 0
  · rw [h0]; simp
  · have := (Nat.log2_lt h0).mpr h
    omega
/-- shown within the line -/
def Shw (d : PyData) : Prop := d.plain = true ∧ d.showable = true ∧ cost d ≤ SZ ∧ d.depth ≤ 64
theorem Shw.repr {d : PyData} (h : Shw d) : reprOk d = true := by
  unfold reprOk
  simp only [Bool.and_eq_true, decide_eq_true_eq]
  exact ⟨⟨⟨h.1, h.2.1⟩, Nat.le_trans (shown_len d) h.2.2.1⟩, h.2.2.2⟩
theorem Shw.okD {d : PyData} (h : Shw d) : okD d = true := by
  unfold Bx.okD
  simp only [Bool.and_eq_true, decide_eq_true_eq]
  exact ⟨h.1, h.2.2.2⟩
mutual
theorem eqv_refl : ∀ d : PyData, d.plain = true → PyData.eqv d d = true
  | .none, _ => by simp [PyData.eqv]
  | .bool _, _ => by simp [PyData.eqv]
  | .int _, _ => by simp [PyData.eqv]
  | .str _, _ => by simp [PyData.eqv]
  | .list xs, h => by
    simp only [PyData.eqv]
    exact eqvAll_refl xs (by simpa [PyData.plain] using h)
  | .tuple xs, h => by
    simp only [PyData.eqv]
    exact eqvAll_refl xs (by simpa [PyData.plain] using h)
  | .dict _, h => by simp [PyData.plain] at h
theorem eqvAll_refl : ∀ xs : List PyData, PyData.plainAll xs = true → PyData.eqvAll xs xs = true
  | [], _ => by simp [PyData.eqvAll]
  | x :: xs, h => by
    have h' : x.plain = true ∧ PyData.plainAll xs = true := by simpa [PyData.plainAll] using h
    simp only [PyData.eqvAll, eqv_refl x h'.1, eqvAll_refl xs h'.2, Bool.and_self]
end
theorem showableAll_map {α : Type} (g : α → PyData) (l : List α) (h : ∀ a ∈ l, (g a).showable = true) : PyData.showableAll (l.map g) = true := by
  induction l with
  | nil => rfl
  | cons x l ih =>
    rw [List.map_cons]
    simp only [PyData.showableAll, h x List.mem_cons_self, ih fun a ha => h a (List.mem_cons_of_mem _ ha), Bool.and_self]

/-! ### sorted -/
/-- Python's order told by Lean's -/
class Lin (α : Type) [DecidableEq α] extends DatumOrd α where
  tri : ∀ a b : α, lt a b = false → lt b a = false → a = b
instance : Lin Int where
  tri a b h1 h2 := by
    have h1 : decide (a < b) = false := h1
    have h2 : decide (b < a) = false := h2
    simp at h1 h2
    omega
section
variable {α β : Type} [DecidableEq α] [Lin α] [DecidableEq β] [Lin β]
instance : Lin (α × β) where
  tri p q h1 h2 := by
    have h1 : (if p.1 = q.1 then DatumOrd.lt p.2 q.2 else DatumOrd.lt p.1 q.1) = false := h1
    have h2 : (if q.1 = p.1 then DatumOrd.lt q.2 p.2 else DatumOrd.lt q.1 p.1) = false := h2
    by_cases e : p.1 = q.1
    · rw [if_pos e] at h1
      rw [if_pos e.symm] at h2
      exact Prod.ext e (Lin.tri _ _ h1 h2)
    · rw [if_neg e] at h1
      rw [if_neg fun z => e z.symm] at h2
      exact (e (Lin.tri _ _ h1 h2)).elim
theorem listLt_tri : ∀ xs ys : List α, listLt xs ys = false → listLt ys xs = false → xs = ys
  | [], [], _, _ => rfl
  | [], _ :: _, h, _ => by simp [listLt] at h
  | _ :: _, [], _, h => by simp [listLt] at h
  | x :: xs, y :: ys, h1, h2 => by
    unfold listLt at h1 h2
    by_cases e : x = y
    · subst e
      rw [if_pos rfl] at h1 h2
      rw [listLt_tri xs ys h1 h2]
    · rw [if_neg e] at h1
      rw [if_neg fun z => e z.symm] at h2
      exact (e (Lin.tri _ _ h1 h2)).elim
instance : Lin (List α) where
  tri xs ys h1 h2 := listLt_tri xs ys h1 h2
instance : Lin (Tup α) where
  tri t u h1 h2 := by
    cases t
    cases u
    exact congrArg Tup.mk (listLt_tri _ _ h1 h2)
/-- a ≤ b -/
def leL (a b : α) : Bool := !(DatumOrd.lt b a)
def sortL (l : List α) : List α := l.mergeSort leL
theorem dataLe_toD (a b : α) : dataLe false id (Datum.toD a) (Datum.toD b) = leL a b := by
  show (!dataLt (Datum.toD b) (Datum.toD a)) = !DatumOrd.lt b a
  rw [DatumOrd.lt_eq]
theorem leL_trans (a b c : α) (h1 : leL a b = true) (h2 : leL b c = true) : leL a c = true := by
  rw [← dataLe_toD] at h1 h2 ⊢
  exact (sortLe_total (PyProof.Rows.listOrd PyProof.Rows.itemOrd) false fun b : PyData => keyToks (id b)).trans _ _ _ h1 h2
theorem leL_total (a b : α) : (leL a b || leL b a) = true := by
  rw [← dataLe_toD, ← dataLe_toD]
  exact Bool.or_eq_true_iff.mpr ((sortLe_total (PyProof.Rows.listOrd PyProof.Rows.itemOrd) false fun b : PyData => keyToks (id b)).total _ _)
theorem leL_anti (a b : α) (h1 : leL a b = true) (h2 : leL b a = true) : a = b := by
  unfold leL at h1 h2
  rw [Bool.not_eq_true'] at h1 h2
  exact Lin.tri a b h2 h1
theorem sort_toD (l : List α) : (l.map Datum.toD).mergeSort (dataLe false id) = (sortL l).map Datum.toD :=
  (sort_maps Datum.toD fun a _ b _ => (dataLe_toD a b).symm).symm
theorem sortL_perm (l : List α) : (sortL l).Perm l := List.mergeSort_perm l _
theorem sortL_sorted (l : List α) : (sortL l).Pairwise fun a b => leL a b = true := List.pairwise_mergeSort leL_trans leL_total l
theorem perm_sorted : ∀ {l m : List α}, l.Perm m → l.Pairwise (fun a b => leL a b = true) → m.Pairwise (fun a b => leL a b = true) → l = m
  | [], m, p, _, _ => (List.Perm.nil_eq p)
  | x :: l, [], p, _, _ => by simp at p
  | x :: l, y :: m, p, h1, h2 => by
    have e : x = y := by
      have m1 : x ∈ y :: m := p.subset List.mem_cons_self
      have m2 : y ∈ x :: l := p.symm.subset List.mem_cons_self
      rcases List.mem_cons.mp m1 with e | m1
      · exact e
      rcases List.mem_cons.mp m2 with e | m2
      · exact e.symm
      exact leL_anti x y ((List.pairwise_cons.mp h1).1 y m2) ((List.pairwise_cons.mp h2).1 x m1)
    subst e
    rw [perm_sorted (List.Perm.cons_inv p) (List.pairwise_cons.mp h1).2 (List.pairwise_cons.mp h2).2]
theorem sortL_congr {l m : List α} (p : l.Perm m) : sortL l = sortL m := perm_sorted ((sortL_perm l).trans (p.trans (sortL_perm m).symm)) (sortL_sorted l) (sortL_sorted m)
theorem sortL_of {l : List α} (h : l.Pairwise fun a b => leL a b = true) : sortL l = l := perm_sorted (sortL_perm l) (sortL_sorted l) h
theorem sortOk_toD (l : List α) (hz : l.length ≤ SZ) (hd : Datum.depth α ≤ 64) (hk : (∀ a : α, ∃ x xs, Datum.toD a = .tuple (x :: xs)) ∨ (∀ a : α, (match Datum.toD a with | .none => false | .tuple _ => false | _ => true) = true)) : sortOk (l.map Datum.toD) = true := by
  unfold sortOk
  simp only [Bool.and_eq_true, List.all_map, List.all_eq_true, Function.comp, decide_eq_true_eq, List.length_map, Bool.or_eq_true]
  refine ⟨⟨⟨fun a _ b _ => DatumOrd.alike a b, fun a _ => ⟨Nat.le_trans (Datum.depth_le a) hd, Datum.plain a⟩⟩, ?_⟩, hz⟩
  rcases hk with hk | hk
  · exact .inl fun a _ => by obtain ⟨x, xs, e⟩ := hk a; rw [e]
  · exact .inr fun a _ => hk a
end
theorem okD_toD {α : Type} [DecidableEq α] [Datum α] (a : α) (hd : Datum.depth α ≤ 64) : okD (Datum.toD a) = true := by
  unfold okD
  simp only [Bool.and_eq_true, decide_eq_true_eq]
  exact ⟨Datum.plain a, Nat.le_trans (Datum.depth_le a) hd⟩
end Bx

set_option Elab.async false
set_option linter.all false
set_option maxRecDepth 100000
set_option autoImplicit false
set_option maxHeartbeats 4000000
/-! More rows. -/
namespace Bx
open PySem PySem.Spec PySem.W
@[simp] theorem mu_popc (xs : List PyData) (y : PyData) : muD .pop (xs ++ [y]) [] = some (y, xs) := by
  unfold muD
  simp
@[simp] theorem szl_0 : 0 < SZ := by decide
@[simp] theorem szl_1 : 1 < SZ := by decide
@[simp] theorem szl_2 : 2 < SZ := by decide
@[simp] theorem szl_3 : 3 < SZ := by decide
@[simp] theorem szl_4 : 4 < SZ := by decide
@[simp] theorem szl_5 : 5 < SZ := by decide
@[simp] theorem szl_6 : 6 < SZ := by decide
@[simp] theorem szl_7 : 7 < SZ := by decide
@[simp] theorem szl_8 : 8 < SZ := by decide
@[simp] theorem szl_9 : 9 < SZ := by decide
@[simp] theorem szl_10 : 10 < SZ := by decide
@[simp] theorem szl_11 : 11 < SZ := by decide
@[simp] theorem szl_12 : 12 < SZ := by decide
@[simp] theorem szl_13 : 13 < SZ := by decide
@[simp] theorem szl_14 : 14 < SZ := by decide
@[simp] theorem szl_15 : 15 < SZ := by decide
@[simp] theorem small_modl (x : Int) (n : Nat) (h0 : 0 < n) (h1 : n < 18446744073709551616) : smallI (x % (no_index (@OfNat.ofNat Int n instOfNat))) = true := by
  have e : (@OfNat.ofNat Int n instOfNat) = ((n : Nat) : Int) := rfl
  rw [e]
  exact small_in (by have := Int.emod_nonneg x (b := (n : Int)) (by omega); omega) (by have := Int.emod_lt_of_pos x (b := (n : Int)) (by omega); omega)
@[simp] theorem ok_int (i : Int) : okD (.int i) = true := rfl
@[simp] theorem ok_bool (i : Bool) : okD (.bool i) = true := rfl
@[simp] theorem ok_str (i : Str) : okD (.str i) = true := rfl
@[simp] theorem ok_none : okD .none = true := rfl
@[simp] theorem ev_int (i j : Int) : PyData.eqv (.int i) (.int j) = decide (i = j) := by
  simp only [PyData.eqv]
  by_cases h : i = j <;> simp [h]
@[simp] theorem ev_bool (i j : Bool) : PyData.eqv (.bool i) (.bool j) = decide (i = j) := by
  simp only [PyData.eqv]
  cases i <;> cases j <;> simp
theorem for_ex {f : PyData → Env → Option Rs} {kill : List Nat} {α : Type} (g : α → PyData) (P : List α → Env → Prop) :
    ∀ (l : List α) (r : Env), P l r → (∀ a l' r, P (a :: l') r → ∃ r2, f (g a) r = some (.nx r2) ∧ P l' (killS r2 kill)) → ∃ r', forL f kill (l.map g) r = some (.nx r') ∧ P [] r'
  | [], r, p, _ => ⟨r, rfl, p⟩
  | a :: l, r, p, H => by
    obtain ⟨r2, h1, p2⟩ := H a l r p
    obtain ⟨r', e, q⟩ := for_ex g P l _ p2 H
    refine ⟨r', ?_, q⟩
    rw [List.map_cons]
    simp only [forL, h1]
    exact e
@[simp] theorem toD_int (i : Int) : (Datum.toD i : PyData) = .int i := rfl
@[simp] theorem toD_bool (i : Bool) : (Datum.toD i : PyData) = .bool i := rfl
@[simp] theorem toD_pair {α β : Type} [DecidableEq α] [Datum α] [DecidableEq β] [Datum β] (p : α × β) : (Datum.toD p : PyData) = .tuple [Datum.toD p.1, Datum.toD p.2] := rfl
theorem toD_list {α : Type} [DecidableEq α] [Datum α] (l : List α) : (Datum.toD l : PyData) = .list (l.map Datum.toD) := rfl
theorem toD_tup {α : Type} [DecidableEq α] [Datum α] (l : List α) : (Datum.toD (Tup.mk l) : PyData) = .tuple (l.map Datum.toD) := rfl
theorem cmp_nenil {α : Type} [DecidableEq α] [Datum α] (l : List α) (h : Datum.depth α ≤ 63) : cmpD .ne (.list (l.map Datum.toD)) (.list []) = some (!decide (l = [])) := by
  have e : ∀ m : List α, PyData.list (m.map Datum.toD) = Datum.toD m := fun _ => rfl
  have o : ∀ m : List α, okD (.list (m.map Datum.toD)) = true := fun m => by
    rw [e]
    exact okD_toD m (by show Datum.depth α + 1 ≤ 64; omega)
  have e2 : PyData.eqv (.list (l.map Datum.toD)) (.list []) = decide (l = []) := Datum.eqv l []
  rw [cmp_ne, o l, show okD (.list []) = true from o [], e2]
  rfl
/-- found == due and repr(found) == repr(due), of one thing -/
theorem same_run {C : Call} {d : PyData} (h : Shw d) : cmpD .eq d d = some true ∧ btD .repr [d] = some (.fr (.str d.shown)) ∧ cmpD .eq (.str d.shown) (.str d.shown) = some true := by
  refine ⟨?_, ?_, ?_⟩
  · rw [cmp_eq, h.okD, eqv_refl d h.1]
    rfl
  · rw [bt_repr, h.repr]
    rfl
  · rw [cmp_eq, show okD (.str d.shown) = true from rfl, eqv_refl (.str d.shown) rfl]
    rfl
end Bx

set_option Elab.async false
set_option linter.all false
set_option maxRecDepth 100000
set_option autoImplicit false
set_option maxHeartbeats 4000000
/-! Typed functions beside the evaluator: encodings, typed steps, the rules that tie a run to a typed function. -/
namespace Bx
open PySem PySem.Spec PySem.W

/-! ### encodings -/
section
variable {α β γ δ ε ζ : Type}
def eL (e : α → PyData) (xs : List α) : PyData := .list (xs.map e)
def eT (e : α → PyData) (xs : List α) : PyData := .tuple (xs.map e)
def eU (_ : Unit) : PyData := .none
def eP0 (_ : Unit) : PyData := .tuple []
def eP1 (e1 : α → PyData) (p : α) : PyData := .tuple [e1 p]
def eP2 (e1 : α → PyData) (e2 : β → PyData) (p : α × β) : PyData := .tuple [e1 p.1, e2 p.2]
def eP3 (e1 : α → PyData) (e2 : β → PyData) (e3 : γ → PyData) (p : α × β × γ) : PyData := .tuple [e1 p.1, e2 p.2.1, e3 p.2.2]
def eP4 (e1 : α → PyData) (e2 : β → PyData) (e3 : γ → PyData) (e4 : δ → PyData) (p : α × β × γ × δ) : PyData := .tuple [e1 p.1, e2 p.2.1, e3 p.2.2.1, e4 p.2.2.2]
def eP5 (e1 : α → PyData) (e2 : β → PyData) (e3 : γ → PyData) (e4 : δ → PyData) (e5 : ε → PyData) (p : α × β × γ × δ × ε) : PyData := .tuple [e1 p.1, e2 p.2.1, e3 p.2.2.1, e4 p.2.2.2.1, e5 p.2.2.2.2]
def eH2 (e1 : α → PyData) (e2 : β → PyData) (p : α × β) : PyData := .list [e1 p.1, e2 p.2]
def eH3 (e1 : α → PyData) (e2 : β → PyData) (e3 : γ → PyData) (p : α × β × γ) : PyData := .list [e1 p.1, e2 p.2.1, e3 p.2.2]
def eR1 (n1 : Str) (e1 : α → PyData) (p : α) : PyData := .dict [(.str n1, e1 p)]
def eR2 (n1 n2 : Str) (e1 : α → PyData) (e2 : β → PyData) (p : α × β) : PyData := .dict [(.str n1, e1 p.1), (.str n2, e2 p.2)]
def eR3 (n1 n2 n3 : Str) (e1 : α → PyData) (e2 : β → PyData) (e3 : γ → PyData) (p : α × β × γ) : PyData := .dict [(.str n1, e1 p.1), (.str n2, e2 p.2.1), (.str n3, e3 p.2.2)]
def eI (d : PyData) : PyData := d

/-- no list or dict within -/
def Fle (e : α → PyData) : Prop := ∀ a, flat (e a) = true
theorem fle_int : Fle PyData.int := fun _ => rfl
theorem fle_bool : Fle PyData.bool := fun _ => rfl
theorem fle_str : Fle PyData.str := fun _ => rfl
theorem fle_U : Fle eU := fun _ => rfl
theorem fle_P0 : Fle eP0 := fun _ => rfl
theorem fle_T {e : α → PyData} (h : Fle e) : Fle (eT e) := fun xs => fl_map e h xs
theorem fle_P1 {e1 : α → PyData} (h1 : Fle e1) : Fle (eP1 e1) := fun p => by
  show (flat (e1 p) && true) = true
  rw [h1]; rfl
theorem fle_P2 {e1 : α → PyData} {e2 : β → PyData} (h1 : Fle e1) (h2 : Fle e2) : Fle (eP2 e1 e2) := fun p => by
  show (flat (e1 p.1) && (flat (e2 p.2) && true)) = true
  rw [h1, h2]; rfl
theorem fle_P3 {e1 : α → PyData} {e2 : β → PyData} {e3 : γ → PyData} (h1 : Fle e1) (h2 : Fle e2) (h3 : Fle e3) : Fle (eP3 e1 e2 e3) := fun p => by
  show (flat (e1 p.1) && (flat (e2 p.2.1) && (flat (e3 p.2.2) && true))) = true
  rw [h1, h2, h3]; rfl
theorem fle_P4 {e1 : α → PyData} {e2 : β → PyData} {e3 : γ → PyData} {e4 : δ → PyData} (h1 : Fle e1) (h2 : Fle e2) (h3 : Fle e3) (h4 : Fle e4) : Fle (eP4 e1 e2 e3 e4) := fun p => by
  show (flat (e1 p.1) && (flat (e2 p.2.1) && (flat (e3 p.2.2.1) && (flat (e4 p.2.2.2) && true)))) = true
  rw [h1, h2, h3, h4]; rfl
theorem fle_P5 {e1 : α → PyData} {e2 : β → PyData} {e3 : γ → PyData} {e4 : δ → PyData} {e5 : ε → PyData} (h1 : Fle e1) (h2 : Fle e2) (h3 : Fle e3) (h4 : Fle e4) (h5 : Fle e5) : Fle (eP5 e1 e2 e3 e4 e5) := fun p => by
  show (flat (e1 p.1) && (flat (e2 p.2.1) && (flat (e3 p.2.2.1) && (flat (e4 p.2.2.2.1) && (flat (e5 p.2.2.2.2) && true))))) = true
  rw [h1, h2, h3, h4, h5]; rfl
theorem flat_fr {e : α → PyData} (h : Fle e) (a : α) : flatW (.fr (e a)) = true := h a
theorem flat_ow {e : α → PyData} (h : Fle e) (xs : List α) : flatW (.ow (eL e xs)) = true := fl_map e h xs

/-! ### equality of encoded values -/
structure EqE [DecidableEq α] (e : α → PyData) (n : Nat) : Prop where
  eqv : ∀ x y, PyData.eqv (e x) (e y) = decide (x = y)
  plain : ∀ x, (e x).plain = true
  depth : ∀ x, (e x).depth ≤ n
theorem EqE.ok [DecidableEq α] {e : α → PyData} {n : Nat} (h : EqE e n) (hn : n ≤ 64) (x : α) : okD (e x) = true := by
  unfold okD
  simp only [Bool.and_eq_true, decide_eq_true_eq]
  exact ⟨h.plain x, Nat.le_trans (h.depth x) hn⟩
theorem eqe_int : EqE PyData.int 1 := ⟨fun x y => ev_int x y, fun _ => rfl, fun _ => by simp [PyData.depth]⟩
theorem eqe_bool : EqE PyData.bool 1 := ⟨fun x y => ev_bool x y, fun _ => rfl, fun _ => by simp [PyData.depth]⟩
theorem eqe_str : EqE PyData.str 1 := ⟨fun x y => by simp only [PyData.eqv]; by_cases h : x = y <;> simp [h], fun _ => rfl, fun _ => by simp [PyData.depth]⟩
theorem eqvAll_map [DecidableEq α] {e : α → PyData} {n : Nat} (h : EqE e n) : ∀ xs ys : List α, PyData.eqvAll (xs.map e) (ys.map e) = decide (xs = ys)
  | [], [] => by simp [PyData.eqvAll]
  | [], _ :: _ => by simp [PyData.eqvAll]
  | _ :: _, [] => by simp [PyData.eqvAll]
  | x :: xs, y :: ys => by
    simp only [List.map_cons, PyData.eqvAll, h.eqv, eqvAll_map h xs ys]
    by_cases h1 : x = y <;> by_cases h2 : xs = ys <;> simp [h1, h2]
theorem plainAll_map {e : α → PyData} (h : ∀ x, (e x).plain = true) : ∀ xs : List α, PyData.plainAll (xs.map e) = true
  | [] => rfl
  | x :: xs => by
    simp only [List.map_cons, PyData.plainAll, h x, plainAll_map h xs, Bool.and_self]
theorem depthAll_map {e : α → PyData} {n : Nat} (h : ∀ x, (e x).depth ≤ n) : ∀ xs : List α, PyData.depthAll (xs.map e) ≤ n
  | [] => Nat.zero_le _
  | x :: xs => by
    have h1 := h x
    have h2 := depthAll_map h xs
    simp only [List.map_cons, PyData.depthAll]
    omega
theorem eqe_L [DecidableEq α] {e : α → PyData} {n : Nat} (h : EqE e n) : EqE (eL e) (n + 1) :=
  ⟨fun x y => by simp only [eL, PyData.eqv]; exact eqvAll_map h x y, fun x => by simp only [eL, PyData.plain]; exact plainAll_map h.plain x, fun x => by
    have := depthAll_map h.depth x
    simp only [eL, PyData.depth]
    omega⟩
theorem eqe_T [DecidableEq α] {e : α → PyData} {n : Nat} (h : EqE e n) : EqE (eT e) (n + 1) :=
  ⟨fun x y => by simp only [eT, PyData.eqv]; exact eqvAll_map h x y, fun x => by simp only [eT, PyData.plain]; exact plainAll_map h.plain x, fun x => by
    have := depthAll_map h.depth x
    simp only [eT, PyData.depth]
    omega⟩
theorem eqe_P0 : EqE eP0 1 := ⟨fun x y => by simp [eP0, PyData.eqv, PyData.eqvAll], fun _ => rfl, fun _ => by simp [eP0, PyData.depth, PyData.depthAll]⟩
theorem eqe_P1 [DecidableEq α] {e1 : α → PyData} {n1 : Nat} (h1 : EqE e1 n1) : EqE (eP1 e1) (n1 + 1) :=
  ⟨fun x y => by simp [eP1, PyData.eqv, PyData.eqvAll, h1.eqv], fun x => by simp [eP1, PyData.plain, PyData.plainAll, h1.plain], fun x => by
    have := h1.depth x
    simp only [eP1, PyData.depth, PyData.depthAll]
    omega⟩
theorem eqe_P2 [DecidableEq α] [DecidableEq β] {e1 : α → PyData} {e2 : β → PyData} {n1 n2 : Nat} (h1 : EqE e1 n1) (h2 : EqE e2 n2) : EqE (eP2 e1 e2) (n1 + n2 + 1) :=
  ⟨fun x y => by
    obtain ⟨x1, x2⟩ := x
    obtain ⟨y1, y2⟩ := y
    simp only [eP2, PyData.eqv, PyData.eqvAll, h1.eqv, h2.eqv, Prod.mk.injEq]
    by_cases a : x1 = y1 <;> by_cases b : x2 = y2 <;> simp [a, b], fun x => by simp [eP2, PyData.plain, PyData.plainAll, h1.plain, h2.plain], fun x => by
    have := h1.depth x.1
    have := h2.depth x.2
    simp only [eP2, PyData.depth, PyData.depthAll]
    omega⟩
theorem eqe_P3 [DecidableEq α] [DecidableEq β] [DecidableEq γ] {e1 : α → PyData} {e2 : β → PyData} {e3 : γ → PyData} {n1 n2 n3 : Nat} (h1 : EqE e1 n1) (h2 : EqE e2 n2) (h3 : EqE e3 n3) : EqE (eP3 e1 e2 e3) (n1 + n2 + n3 + 1) :=
  ⟨fun x y => by
    obtain ⟨x1, x2, x3⟩ := x
    obtain ⟨y1, y2, y3⟩ := y
    simp only [eP3, PyData.eqv, PyData.eqvAll, h1.eqv, h2.eqv, h3.eqv, Prod.mk.injEq]
    by_cases a : x1 = y1 <;> by_cases b : x2 = y2 <;> by_cases c : x3 = y3 <;> simp [a, b, c], fun x => by simp [eP3, PyData.plain, PyData.plainAll, h1.plain, h2.plain, h3.plain], fun x => by
    have := h1.depth x.1
    have := h2.depth x.2.1
    have := h3.depth x.2.2
    simp only [eP3, PyData.depth, PyData.depthAll]
    omega⟩
theorem eqe_P4 [DecidableEq α] [DecidableEq β] [DecidableEq γ] [DecidableEq δ] {e1 : α → PyData} {e2 : β → PyData} {e3 : γ → PyData} {e4 : δ → PyData} {n1 n2 n3 n4 : Nat} (h1 : EqE e1 n1) (h2 : EqE e2 n2) (h3 : EqE e3 n3) (h4 : EqE e4 n4) : EqE (eP4 e1 e2 e3 e4) (n1 + n2 + n3 + n4 + 1) :=
  ⟨fun x y => by
    obtain ⟨x1, x2, x3, x4⟩ := x
    obtain ⟨y1, y2, y3, y4⟩ := y
    simp only [eP4, PyData.eqv, PyData.eqvAll, h1.eqv, h2.eqv, h3.eqv, h4.eqv, Prod.mk.injEq]
    by_cases a : x1 = y1 <;> by_cases b : x2 = y2 <;> by_cases c : x3 = y3 <;> by_cases d : x4 = y4 <;> simp [a, b, c, d], fun x => by simp [eP4, PyData.plain, PyData.plainAll, h1.plain, h2.plain, h3.plain, h4.plain], fun x => by
    have := h1.depth x.1
    have := h2.depth x.2.1
    have := h3.depth x.2.2.1
    have := h4.depth x.2.2.2
    simp only [eP4, PyData.depth, PyData.depthAll]
    omega⟩

/-! ### typed steps -/
def mulS (i j : Int) : Option Int := if smallI i || smallI j then some (i * j) else none
def fdivS (i j : Int) : Option Int := if 0 < j ∧ j < 1073741824 then some (i / j) else none
def modS (i j : Int) : Option Int := if 0 < j then some (i % j) else none
def powS (i j : Int) : Option Int := if 0 ≤ j ∧ j ≤ 1000000 ∧ i.natAbs < 2 ^ 64 then some (i ^ j.toNat) else none
def shlS (i j : Int) : Option Int := if 0 ≤ j ∧ j ≤ 1000000 ∧ i.natAbs < 2 ^ 64 then some (i * 2 ^ j.toNat) else none
def catS (xs ys : List α) : Option (List α) := if xs.length + ys.length ≤ SZ then some (xs ++ ys) else none
def appS (xs : List α) (y : α) : Option (List α) := if xs.length < SZ then some (xs ++ [y]) else none
def atS (xs : List α) (i : Int) : Option α := L2.atI xs i
def setS (xs : List α) (i : Int) (y : α) : Option (List α) := match L2.ixN xs.length i with
  | some j => some (xs.set j y)
  | none => none
def popS (xs : List α) : Option (α × List α) := match xs[xs.length - 1]? with
  | some y => some (y, xs.dropLast)
  | none => none
def minS : List Int → Option Int
  | [] => none
  | n :: ns => some (ns.foldl min n)
def maxS : List Int → Option Int
  | [] => none
  | n :: ns => some (ns.foldl max n)
def rgS (j : Int) : Option (List Int) := if -(2 ^ 62) ≤ j ∧ j < 2 ^ 62 then some ((List.range j.toNat).map fun (i : Nat) => (i : Int)) else none
def rg2S (a b : Int) : Option (List Int) := if -(2 ^ 62) ≤ a ∧ a < 2 ^ 62 ∧ -(2 ^ 62) ≤ b ∧ b < 2 ^ 62 then some ((List.range (b - a).toNat).map fun (i : Nat) => a + (i : Int)) else none
def enumS : Int → List α → List (Int × α)
  | _, [] => []
  | k, x :: xs => (k, x) :: enumS (k + 1) xs
/-- [f x for x in l] -/
def mapM' (f : α → Option β) : List α → Option (List β)
  | [] => some []
  | a :: l => match f a with
    | some b => match mapM' f l with
      | some bs => some (b :: bs)
      | none => none
    | none => none
def mapS (f : α → Option β) (l : List α) : Option (List β) := if l.length ≤ SZ then mapM' f l else none
/-- [g x for x in l if p x] -/
def filM (p : α → Option Bool) (g : α → Option β) : List α → Option (List β)
  | [] => some []
  | a :: l => match p a with
    | some true => match g a with
      | some b => match filM p g l with
        | some bs => some (b :: bs)
        | none => none
      | none => none
    | some false => filM p g l
    | none => none
def filS (p : α → Option Bool) (g : α → Option β) (l : List α) : Option (List β) := if l.length ≤ SZ then filM p g l else none
/-- .. with a state -/
def mapMT {σ : Type} (f : σ → α → Option (β × σ)) : σ → List α → Option (List β × σ)
  | s, [] => some ([], s)
  | s, a :: l => match f s a with
    | some (b, s1) => match mapMT f s1 l with
      | some (bs, s2) => some (b :: bs, s2)
      | none => none
    | none => none
def mapT {σ : Type} (f : σ → α → Option (β × σ)) (s : σ) (l : List α) : Option (List β × σ) := if l.length ≤ SZ then mapMT f s l else none
inductive Rr (σ ρ : Type) where
  | nx (s : σ)
  | rt (v : ρ)
def forS {σ : Type} (f : σ → α → Option σ) : σ → List α → Option σ
  | s, [] => some s
  | s, a :: l => match f s a with
    | some s1 => forS f s1 l
    | none => none
def forR {σ ρ : Type} (f : σ → α → Option (Rr σ ρ)) : σ → List α → Option (Rr σ ρ)
  | s, [] => some (.nx s)
  | s, a :: l => match f s a with
    | some (.nx s1) => forR f s1 l
    | some (.rt v) => some (.rt v)
    | none => none
def whS {σ : Type} (c : σ → Option Bool) (f : σ → Option σ) : Nat → σ → Option σ
  | 0, _ => none
  | n + 1, s => match c s with
    | some true => match f s with
      | some s1 => whS c f n s1
      | none => none
    | some false => some s
    | none => none
def whR {σ ρ : Type} (c : σ → Option Bool) (f : σ → Option (Rr σ ρ)) : Nat → σ → Option (Rr σ ρ)
  | 0, _ => none
  | n + 1, s => match c s with
    | some true => match f s with
      | some (.nx s1) => whR c f n s1
      | some (.rt v) => some (.rt v)
      | none => none
    | some false => some (.nx s)
    | none => none
theorem bnd {m : Option α} {k : α → Option β} {v : β} (h : m.bind k = some v) : ∃ t, m = some t ∧ k t = some v := Option.bind_eq_some_iff.mp h
theorem iteT {b : Bool} {x y : Option α} {v : α} (hb : b = true) (h : (if b = true then x else y) = some v) : x = some v := by rw [if_pos hb] at h; exact h
theorem iteF {b : Bool} {x y : Option α} {v : α} (hb : b = false) (h : (if b = true then x else y) = some v) : y = some v := by rw [if_neg (by rw [hb]; exact Bool.false_ne_true)] at h; exact h

/-! ### typed steps as the evaluator's -/
theorem b_mul {i j k : Int} (h : mulS i j = some k) : binD .mul (.int i) (.int j) = some (.fr (.int k)) := by
  unfold mulS at h
  rw [bin_mul]
  split at h
  · rw [if_pos (by assumption)]; cases h; rfl
  · cases h
theorem b_mull {i j : Int} (h : smallI i = true) : binD .mul (.int i) (.int j) = some (.fr (.int (i * j))) := by
  rw [bin_mul, if_pos (by rw [h]; rfl)]
theorem b_mulr {i j : Int} (h : smallI j = true) : binD .mul (.int i) (.int j) = some (.fr (.int (i * j))) := by
  rw [bin_mul, if_pos (by rw [h]; cases smallI i <;> rfl)]
theorem b_fdiv {i j k : Int} (h : fdivS i j = some k) : binD .fdiv (.int i) (.int j) = some (.fr (.int k)) := by
  unfold fdivS at h
  rw [bin_fdiv]
  split at h
  · rw [if_pos (by assumption)]; cases h; rfl
  · cases h
theorem b_fdivk {i j : Int} (h : 0 < j ∧ j < 1073741824) : binD .fdiv (.int i) (.int j) = some (.fr (.int (i / j))) := by rw [bin_fdiv, if_pos h]
theorem b_mod {i j k : Int} (h : modS i j = some k) : binD .mod (.int i) (.int j) = some (.fr (.int k)) := by
  unfold modS at h
  rw [bin_mod]
  split at h
  · rw [if_pos (by assumption)]; cases h; rfl
  · cases h
theorem b_modk {i j : Int} (h : 0 < j) : binD .mod (.int i) (.int j) = some (.fr (.int (i % j))) := by rw [bin_mod, if_pos h]
theorem b_pow {i j k : Int} (h : powS i j = some k) : binD .pow (.int i) (.int j) = some (.fr (.int k)) := by
  unfold powS at h
  rw [bin_pow]
  split at h
  · rw [if_pos (by assumption)]; cases h; rfl
  · cases h
theorem b_shl {i j k : Int} (h : shlS i j = some k) : binD .shl (.int i) (.int j) = some (.fr (.int k)) := by
  unfold shlS at h
  rw [bin_shl]
  split at h
  · rw [if_pos (by assumption)]; cases h; rfl
  · cases h
theorem b_catT {e : α → PyData} {xs ys zs : List α} (h : catS xs ys = some zs) : binD .add (eT e xs) (eT e ys) = some (.fr (eT e zs)) := by
  unfold catS at h
  split at h
  · cases h
    unfold eT
    rw [bin_addt, List.length_map, List.length_map, if_pos (by assumption), List.map_append]
  · cases h
theorem b_catL {e : α → PyData} {xs ys zs : List α} (h : catS xs ys = some zs) : binD .add (eL e xs) (eL e ys) = some (.ow (eL e zs)) := by
  unfold catS at h
  split at h
  · cases h
    unfold eL
    rw [bin_addl, List.length_map, List.length_map, if_pos (by assumption), List.map_append]
  · cases h
theorem c_eq [DecidableEq α] {e : α → PyData} {n : Nat} (h : EqE e n) (hn : n ≤ 64) (x y : α) : cmpD .eq (e x) (e y) = some (decide (x = y)) := by
  rw [cmp_eq, h.ok hn, h.ok hn, h.eqv]; rfl
theorem c_ne [DecidableEq α] {e : α → PyData} {n : Nat} (h : EqE e n) (hn : n ≤ 64) (x y : α) : cmpD .ne (e x) (e y) = some (!decide (x = y)) := by
  rw [cmp_ne, h.ok hn, h.ok hn, h.eqv]; rfl
theorem any_eqv [DecidableEq α] {e : α → PyData} {n : Nat} (h : EqE e n) (x : α) (ys : List α) : ((ys.map e).any fun y => PyData.eqv y (e x)) = decide (x ∈ ys) := by
  induction ys with
  | nil => simp
  | cons y ys ih =>
    rw [List.map_cons, List.any_cons, ih, h.eqv]
    by_cases h1 : y = x
    · subst h1; simp
    · have : ¬ x = y := fun z => h1 z.symm
      simp [h1, this]
theorem c_inL [DecidableEq α] {e : α → PyData} {n : Nat} (h : EqE e n) (hn : n + 1 ≤ 64) (x : α) (ys : List α) : cmpD .isin (e x) (eL e ys) = some (decide (x ∈ ys)) := by
  have h1 := h.ok (by omega) x
  have h2 := (eqe_L h).ok hn ys
  have h3 := any_eqv h x ys
  unfold eL at h2 ⊢
  simp only [cmpD, h1, h2, h3, Bool.and_self, if_true]
theorem c_notinL [DecidableEq α] {e : α → PyData} {n : Nat} (h : EqE e n) (hn : n + 1 ≤ 64) (x : α) (ys : List α) : cmpD .notin (e x) (eL e ys) = some (!decide (x ∈ ys)) := by
  have h1 := h.ok (by omega) x
  have h2 := (eqe_L h).ok hn ys
  have h3 := any_eqv h x ys
  unfold eL at h2 ⊢
  simp only [cmpD, h1, h2, h3, Bool.and_self, if_true]
theorem c_inT [DecidableEq α] {e : α → PyData} {n : Nat} (h : EqE e n) (hn : n + 1 ≤ 64) (x : α) (ys : List α) : cmpD .isin (e x) (eT e ys) = some (decide (x ∈ ys)) := by
  have h1 := h.ok (by omega) x
  have h2 := (eqe_T h).ok hn ys
  have h3 := any_eqv h x ys
  unfold eT at h2 ⊢
  simp only [cmpD, h1, h2, h3, Bool.and_self, if_true]
theorem c_notinT [DecidableEq α] {e : α → PyData} {n : Nat} (h : EqE e n) (hn : n + 1 ≤ 64) (x : α) (ys : List α) : cmpD .notin (e x) (eT e ys) = some (!decide (x ∈ ys)) := by
  have h1 := h.ok (by omega) x
  have h2 := (eqe_T h).ok hn ys
  have h3 := any_eqv h x ys
  unfold eT at h2 ⊢
  simp only [cmpD, h1, h2, h3, Bool.and_self, if_true]
/-- displays: (a, b) in [..] -/
theorem eL_lit0 (e : α → PyData) : PyData.list [] = eL e [] := rfl
theorem g_ixL {e : α → PyData} {xs : List α} {i : Int} {x : α} (h : atS xs i = some x) : idxA (eL e xs) (.int i) = some (e x) := by
  show L2.atI (xs.map e) i = _
  rw [atI_map, show L2.atI xs i = some x from h]; rfl
theorem g_ixT {e : α → PyData} {xs : List α} {i : Int} {x : α} (h : atS xs i = some x) : idxA (eT e xs) (.int i) = some (e x) := by
  show L2.atI (xs.map e) i = _
  rw [atI_map, show L2.atI xs i = some x from h]; rfl
theorem cut_map (f : α → β) (xs : List α) (lo hi : Option Int) : cutL (xs.map f) lo hi = (cutL xs lo hi).map f := by
  unfold cutL
  rw [List.length_map, List.map_take, List.map_drop]
theorem g_slL (e : α → PyData) (xs : List α) (lo hi : Option Int) : sliceD (eL e xs) lo hi = some (.ow (eL e (cutL xs lo hi))) := by
  show some (Sl.ow (.list (cutL (xs.map e) lo hi))) = _
  rw [cut_map]; rfl
theorem g_slT (e : α → PyData) (xs : List α) (lo hi : Option Int) : sliceD (eT e xs) lo hi = some (.fr (eT e (cutL xs lo hi))) := by
  show some (Sl.fr (.tuple (cutL (xs.map e) lo hi))) = _
  rw [cut_map]; rfl
theorem intsM : ∀ xs : List Int, intsOf (xs.map .int) = some xs
  | [] => rfl
  | x :: xs => by simp only [List.map_cons, intsOf, intsM xs]
theorem boolsM : ∀ xs : List Bool, boolsOf (xs.map .bool) = some xs
  | [] => rfl
  | x :: xs => by simp only [List.map_cons, boolsOf, boolsM xs]
theorem f_lenL (e : α → PyData) (xs : List α) : btD .len [eL e xs] = some (.fr (.int (xs.length : Int))) := by
  show some (Sl.fr (.int ((xs.map e).length : Int))) = _
  rw [List.length_map]
theorem f_lenT (e : α → PyData) (xs : List α) : btD .len [eT e xs] = some (.fr (.int (xs.length : Int))) := by
  show some (Sl.fr (.int ((xs.map e).length : Int))) = _
  rw [List.length_map]
theorem f_sum (xs : List Int) : btD .sum1 [eL .int xs] = some (.fr (.int xs.sum)) := by simp only [eL, btD, intsM]
theorem f_min {xs : List Int} {k : Int} (h : minS xs = some k) : btD .min1 [eL .int xs] = some (.fr (.int k)) := by
  simp only [eL, btD, intsM]
  cases xs with
  | nil => cases h
  | cons n ns => cases h; rfl
theorem f_max {xs : List Int} {k : Int} (h : maxS xs = some k) : btD .max1 [eL .int xs] = some (.fr (.int k)) := by
  simp only [eL, btD, intsM]
  cases xs with
  | nil => cases h
  | cons n ns => cases h; rfl
theorem f_minT {xs : List Int} {k : Int} (h : minS xs = some k) : btD .min1 [eT .int xs] = some (.fr (.int k)) := by
  simp only [eT, btD, intsM]
  cases xs with
  | nil => cases h
  | cons n ns => cases h; rfl
theorem f_maxT {xs : List Int} {k : Int} (h : maxS xs = some k) : btD .max1 [eT .int xs] = some (.fr (.int k)) := by
  simp only [eT, btD, intsM]
  cases xs with
  | nil => cases h
  | cons n ns => cases h; rfl
theorem f_all (xs : List Bool) : btD .all [eL .bool xs] = some (.fr (.bool (xs.all id))) := by simp only [eL, btD, boolsM]
theorem f_any (xs : List Bool) : btD .any [eL .bool xs] = some (.fr (.bool (xs.any id))) := by simp only [eL, btD, boolsM]
theorem m_app {e : α → PyData} {xs ys : List α} {y : α} (h : appS xs y = some ys) : muD .append (xs.map e) [e y] = some (.none, ys.map e) := by
  unfold appS at h
  split at h
  · cases h
    simp only [muD, List.length_map, if_pos (by assumption : xs.length < SZ), List.map_append, List.map_cons, List.map_nil]
  · cases h
theorem m_ext {e : α → PyData} {xs ys zs : List α} (h : catS xs ys = some zs) : muD .extend (xs.map e) [eL e ys] = some (.none, zs.map e) := by
  unfold catS at h
  split at h
  · cases h
    simp only [eL, muD, List.length_map, if_pos (by assumption : xs.length + ys.length ≤ SZ), List.map_append]
  · cases h
theorem m_pop {e : α → PyData} {xs ys : List α} {y : α} (h : popS xs = some (y, ys)) : muD .pop (xs.map e) [] = some (e y, ys.map e) := by
  unfold popS at h
  split at h
  · rename_i z hz
    cases h
    simp only [muD, List.length_map, List.getElem?_map, hz, Option.map_some, List.map_dropLast]
  · cases h
theorem m_appW {xs ys : List PyData} {y : PyData} (h : appS xs y = some ys) : muD .append xs [y] = some (.none, ys) := by
  unfold appS at h
  split at h
  · cases h
    simp only [muD, if_pos (by assumption : xs.length < SZ)]
  · cases h
theorem m_revW (xs : List PyData) : muD .reverse xs [] = some (.none, xs.reverse) := rfl
theorem f_sumT (xs : List Int) : btD .sum1 [eT .int xs] = some (.fr (.int xs.sum)) := by
  show (match intsOf (xs.map .int) with
    | some ns => some (Sl.fr (.int ns.sum))
    | none => none) = _
  rw [intsM]
theorem m_rev (e : α → PyData) (xs : List α) : muD .reverse (xs.map e) [] = some (.none, xs.reverse.map e) := by
  simp only [muD, List.map_reverse]
theorem m_clear (e : α → PyData) (xs : List α) : muD .clear (xs.map e) [] = some (.none, ([] : List α).map e) := rfl
theorem p_setL {e : α → PyData} {xs ys : List α} {i : Int} {y : α} (h : setS xs i y = some ys) : putD (eL e xs) (.int i) (e y) = some (eL e ys) := by
  unfold setS at h
  cases hj : L2.ixN xs.length i with
  | none => rw [hj] at h; cases h
  | some j =>
    rw [hj] at h
    cases h
    show (match L2.ixN (xs.map e).length i with | some j => some (PyData.list ((xs.map e).set j (e y))) | none => none) = _
    rw [List.length_map, hj]
    show some (PyData.list ((xs.map e).set j (e y))) = some (PyData.list ((xs.set j y).map e))
    rw [List.map_set]
theorem r_1 {j : Int} {xs : List Int} (h : rgS j = some xs) : rangeD [.int j] = some (xs.map .int) := by
  unfold rgS at h
  rw [rg_1]
  split at h
  · rw [if_pos (by assumption)]
    cases h
    rw [List.map_map]; rfl
  · cases h
theorem r_2 {a b : Int} {xs : List Int} (h : rg2S a b = some xs) : rangeD [.int a, .int b] = some (xs.map .int) := by
  unfold rg2S at h
  rw [rg_2]
  split at h
  · rw [if_pos (by assumption)]
    cases h
    rw [List.map_map]; rfl
  · cases h
theorem zip_e (e1 : α → PyData) (e2 : β → PyData) (xs : List α) (ys : List β) : ((xs.map e1).zip (ys.map e2)).map (fun p => PyData.tuple [p.1, p.2]) = (xs.zip ys).map (eP2 e1 e2) := by
  rw [List.zip_map, List.map_map]; rfl
theorem z_2 {a b : PyData} {e1 : α → PyData} {e2 : β → PyData} {xs : List α} {ys : List β} (h1 : itemsOf a = some (xs.map e1)) (h2 : itemsOf b = some (ys.map e2)) : zipD [a, b] = some ((xs.zip ys).map (eP2 e1 e2)) := by
  rw [zp_2, h1, h2]
  simp only [zip_e]
theorem z_3 {a b c : PyData} {e1 : α → PyData} {e2 : β → PyData} {e3 : γ → PyData} {xs : List α} {ys : List β} {zs : List γ} (h1 : itemsOf a = some (xs.map e1)) (h2 : itemsOf b = some (ys.map e2)) (h3 : itemsOf c = some (zs.map e3)) :
    zipD [a, b, c] = some ((xs.zip (ys.zip zs)).map (eP3 e1 e2 e3)) := by
  rw [zp_3, h1, h2, h3]
  simp only
  rw [List.zip_map (f := e2) (g := e3), List.zip_map, List.map_map]
  rfl
theorem enum_e (e : α → PyData) : ∀ (k : Int) (xs : List α), enumFrom k (xs.map e) = (enumS k xs).map (eP2 .int e)
  | _, [] => rfl
  | k, x :: xs => by
    show PyData.tuple [.int k, e x] :: enumFrom (k + 1) (xs.map e) = _
    rw [enum_e e (k + 1) xs]; rfl
theorem n_L (e : α → PyData) (xs : List α) : enumD (eL e xs) = some ((enumS 0 xs).map (eP2 .int e)) := by
  show some (enumFrom 0 (xs.map e)) = _
  rw [enum_e]
theorem n_T (e : α → PyData) (xs : List α) : enumD (eT e xs) = some ((enumS 0 xs).map (eP2 .int e)) := by
  show some (enumFrom 0 (xs.map e)) = _
  rw [enum_e]
theorem it_L (e : α → PyData) (xs : List α) : itemsOf (eL e xs) = some (xs.map e) := rfl
theorem it_T (e : α → PyData) (xs : List α) : itemsOf (eT e xs) = some (xs.map e) := rfl
end

/-! ### rules: expressions -/
section
variable {C : Call} {r r1 r2 r3 : Env}
theorem x_k {c : Cn} : evE C (.k c) r = some (.fr c.d, r) := rfl
theorem x_v {i : Nat} {d : PyData} (h : r[i]? = some (.fr d)) : evE C (.v i) r = some (.fr d, r) := by rw [e_v, h]
theorem x_vo {i : Nat} {d : PyData} (r1 : Bx.Env) (h : r[i]? = some (.ow d)) (h2 : r.set i (.fr d) = r1) : evE C (.v i) r = some (.fr d, r1) := by rw [e_v, h, ← h2]
theorem x_mv {i : Nat} {d : PyData} (h : r[i]? = some (.fr d)) : evE C (.mv i) r = some (.fr d, r) := by rw [e_mv, h]
theorem x_mvo {i : Nat} {d : PyData} (r1 : Bx.Env) (h : r[i]? = some (.ow d)) (h2 : r.set i .no = r1) : evE C (.mv i) r = some (.ow d, r1) := by rw [e_mv, h, ← h2]
theorem x_bw {i : Nat} {d : PyData} (h : r[i]? = some (.fr d)) : evE C (.bw i) r = some (.lk i, r) := by rw [e_bw, h]
theorem x_bwo {i : Nat} {d : PyData} (h : r[i]? = some (.ow d)) : evE C (.bw i) r = some (.lk i, r) := by rw [e_bw, h]
theorem x_ln {i : Nat} {d : PyData} (h : r[i]? = some (.ow d)) : evE C (.ln i) r = some (.ln i, r) := by rw [e_ln, h]
theorem y_nil : evEs C .nil r = some ([], r) := rfl
theorem y_cons {e : Ex} {es : Exs} {w : Sl} {ws : List Sl} (h1 : evE C e r = some (w, r1)) (h2 : evEs C es r1 = some (ws, r2)) : evEs C (.cons e es) r = some (w :: ws, r2) := by rw [es_cons, h1]; simp only [h2]
theorem x_tup {es : Exs} {ws : List Sl} {ds : List PyData} (h : evEs C es r = some (ws, r1)) (h2 : fzL ws = some ds) (h3 : ds.length ≤ SZ) : evE C (.tup es) r = some (.fr (.tuple ds), r1) := by
  rw [e_tup, h]; simp only [h2, if_pos h3]
theorem x_lst {es : Exs} {ws : List Sl} {ds : List PyData} (h : evEs C es r = some (ws, r1)) (h2 : fzL ws = some ds) (h3 : ds.length ≤ SZ) : evE C (.lst es) r = some (.ow (.list ds), r1) := by
  rw [e_lst, h]; simp only [h2, if_pos h3]
theorem x_dct {ks : List Cn} {es : Exs} {ws : List Sl} {ds : List PyData} (h : evEs C es r = some (ws, r1)) (h2 : fzL ws = some ds) (h3 : ks.length = ds.length ∧ ks.length ≤ 15 ∧ keysOk ks = true) : evE C (.dct ks es) r = some (.ow (.dict ((ks.map Cn.d).zip ds)), r1) := by
  rw [e_dct, h]; simp only [h2, if_pos h3]
theorem x_bin {o : BOp} {a b : Ex} {x y w : Sl} {d e : PyData} (h1 : evE C a r = some (x, r1)) (h2 : evE C b r1 = some (y, r2)) (h3 : see r2 x = some d) (h4 : see r2 y = some e) (h5 : binD o d e = some w) : evE C (.bin o a b) r = some (w, r2) := by
  rw [e_bin, h1]; simp only [h2, h3, h4, h5]
theorem x_neg {a : Ex} {i : Int} (h1 : evE C a r = some (.fr (.int i), r1)) : evE C (.neg a) r = some (.fr (.int (-i)), r1) := by rw [e_neg, h1]
theorem x_nt {a : Ex} {b : Bool} (h1 : evE C a r = some (.fr (.bool b), r1)) : evE C (.nt a) r = some (.fr (.bool (!b)), r1) := by rw [e_nt, h1]
theorem x_cmp {o : COp} {a b : Ex} {x y : Sl} {d e : PyData} {c : Bool} (h1 : evE C a r = some (x, r1)) (h2 : evE C b r1 = some (y, r2)) (h3 : see r2 x = some d) (h4 : see r2 y = some e) (h5 : cmpD o d e = some c) : evE C (.cmp o a b) r = some (.fr (.bool c), r2) := by
  rw [e_cmp, h1]; simp only [h2, h3, h4, h5]
theorem x_ch {o p : COp} {a b c : Ex} {x y z : Sl} {d e e' g : PyData} {t u : Bool} (h1 : evE C a r = some (x, r1)) (h2 : evE C b r1 = some (y, r2)) (h3 : see r2 x = some d) (h4 : see r2 y = some e) (h5 : cmpD o d e = some t)
    (h6 : t = true → evE C c r2 = some (z, r2) ∧ see r2 y = some e' ∧ see r2 z = some g ∧ cmpD p e' g = some u) : evE C (.ch o p a b c) r = some (.fr (.bool (t && u)), r2) := by
  rw [e_ch, h1]; simp only [h2, h3, h4, h5]
  cases t with
  | false => rfl
  | true =>
    obtain ⟨a1, a2, a3, a4⟩ := h6 rfl
    simp only [a1, a2, a3, a4, Bool.true_and]
theorem x_an {a b : Ex} {x y : Bool} (h1 : evE C a r = some (.fr (.bool x), r1)) (h2 : x = true → evE C b r1 = some (.fr (.bool y), r1)) : evE C (.an a b) r = some (.fr (.bool (x && y)), r1) := by
  rw [e_an, h1]
  cases x with
  | false => rfl
  | true => simp only [h2 rfl, Bool.true_and]
theorem x_or {a b : Ex} {x y : Bool} (h1 : evE C a r = some (.fr (.bool x), r1)) (h2 : x = false → evE C b r1 = some (.fr (.bool y), r1)) : evE C (.orr a b) r = some (.fr (.bool (x || y)), r1) := by
  rw [e_orr, h1]
  cases x with
  | true => rfl
  | false => simp only [h2 rfl, Bool.false_or]
/-- and, or whose second part may fail -/
def anS (x : Bool) (m : Option Bool) : Option Bool := if x = true then m else some false
def orS (x : Bool) (m : Option Bool) : Option Bool := if x = true then some true else m
theorem x_anS {a b : Ex} {x z : Bool} {m : Option Bool} (h : anS x m = some z) (h1 : evE C a r = some (.fr (.bool x), r1)) (h2 : ∀ y, x = true → m = some y → evE C b r1 = some (.fr (.bool y), r1)) : evE C (.an a b) r = some (.fr (.bool z), r1) := by
  rw [e_an, h1]
  cases x with
  | false => cases h; rfl
  | true => simp only [h2 z rfl h]
theorem x_orS {a b : Ex} {x z : Bool} {m : Option Bool} (h : orS x m = some z) (h1 : evE C a r = some (.fr (.bool x), r1)) (h2 : ∀ y, x = false → m = some y → evE C b r1 = some (.fr (.bool y), r1)) : evE C (.orr a b) r = some (.fr (.bool z), r1) := by
  rw [e_orr, h1]
  cases x with
  | true => cases h; rfl
  | false => simp only [h2 z rfl h]
theorem x_ix {a b : Ex} {x y : Sl} {d e g : PyData} (h1 : evE C a r = some (x, r1)) (h2 : evE C b r1 = some (y, r2)) (h3 : see r2 x = some d) (h4 : see r2 y = some e) (h5 : idxA d e = some g) : evE C (.ix a b) r = some (.fr g, r2) := by
  rw [e_ix, h1]; simp only [h2, h3, h4, h5]
theorem x_sl {a lo hi : Ex} {x w : Sl} {y z d : PyData} {l h : Option Int} (h1 : evE C a r = some (x, r1)) (h2 : evE C lo r1 = some (.fr y, r2)) (h3 : evE C hi r2 = some (.fr z, r3)) (h4 : see r3 x = some d) (h5 : partD lo y = some l) (h6 : partD hi z = some h) (h7 : sliceD d l h = some w) :
    evE C (.sl a lo hi) r = some (w, r3) := by
  rw [e_sl, h1]; simp only [h2, h3, h4, h5, h6, h7]
theorem x_bt {b : Bt} {es : Exs} {ws : List Sl} {ds : List PyData} {w : Sl} (h1 : evEs C es r = some (ws, r1)) (h2 : seeL r1 ws = some ds) (h3 : btD b ds = some w) : evE C (.bt b es) r = some (w, r1) := by
  rw [e_bt, h1]; simp only [h2, h3]
theorem x_isi {a : Ex} {ts : List Ty} {x : Sl} {d : PyData} (h1 : evE C a r = some (x, r1)) (h2 : see r1 x = some d) : evE C (.isi a ts) r = some (.fr (.bool (ts.any (isTy d))), r1) := by
  rw [e_isi, h1]; simp only [h2]
theorem x_isiK {a : Ex} {ts : List Ty} {x : Sl} {d : PyData} {b : Bool} (h1 : evE C a r = some (x, r1)) (h2 : see r1 x = some d) (h3 : ts.any (isTy d) = b) : evE C (.isi a ts) r = some (.fr (.bool b), r1) := by
  rw [x_isi h1 h2, h3]
theorem x_mu {m : Mu} {i : Nat} {es : Exs} {ws : List Sl} {xs0 xs ds ys : List PyData} {y : PyData} (r2 : Bx.Env) (h0 : r[i]? = some (.ow (.list xs0))) (h1 : evEs C es r = some (ws, r1)) (h2 : r1[i]? = some (.ow (.list xs))) (h3 : muA m r1 ws = some ds) (h4 : muD m xs ds = some (y, ys)) (h5 : r1.set i (.ow (.list ys)) = r2) :
    evE C (.mu m i es) r = some (.fr y, r2) := by
  rw [e_mu, h0]; simp only [h1, h2, h3, h4, h5]
/-- a call: nothing looked at that is one's own; or what is told is flat -/
theorem gb_none : ∀ (ws fs : List Sl) (r : Bx.Env), lents ws = [] → giveBack r ws fs = r
  | [], fs, r, _ => gb_nil r fs
  | w :: ws, [], r, _ => by cases w <;> rfl
  | w :: ws, f :: fs, r, h => by
    cases w with
    | ln i => cases h
    | _ => exact gb_none ws fs r h
theorem x_call {f : Nat} {es : Exs} {ws as fs : List Sl} {w : Sl} (r2 : Bx.Env) (h1 : evEs C es r = some (ws, r1)) (h2 : argsOf r1 ws = some as) (h3 : (nodupB (lents ws) && (ownLk r1 ws).all fun i => !(lents ws).contains i) = true) (h4 : C f as = some (w, fs))
    (h5 : (isV w && decide (fs.length = ws.length)) = true) (h6 : ownLk r1 ws = []) (h7 : giveBack r1 ws fs = r2) : evE C (.call f es) r = some (w, r2) := by
  rw [e_call, h1]
  simp only [callE, h2, h3, h4, h5, if_true]
  cases flatW w && fs.all flatW with
  | true => simp only [if_true, h7]
  | false => rw [h6]; simp only [Bool.false_eq_true, if_false, fa_nil, h7]
theorem x_call0 {f : Nat} {es : Exs} {ws as fs : List Sl} {w : Sl} (h1 : evEs C es r = some (ws, r1)) (h2 : argsOf r1 ws = some as) (h3 : lents ws = []) (h4 : C f as = some (w, fs))
    (h5 : (isV w && decide (fs.length = ws.length)) = true) (h6 : ownLk r1 ws = []) : evE C (.call f es) r = some (w, r1) :=
  x_call r1 h1 h2 (by rw [h3, h6]; rfl) h4 h5 h6 (gb_none _ _ _ h3)
theorem x_callF {f : Nat} {es : Exs} {ws as fs : List Sl} {w : Sl} (h1 : evEs C es r = some (ws, r1)) (h2 : argsOf r1 ws = some as) (h3 : lents ws = []) (h4 : C f as = some (w, fs))
    (h5 : (isV w && decide (fs.length = ws.length)) = true) (h6 : flatW w = true) (h7 : fs.all flatW = true) : evE C (.call f es) r = some (w, r1) := by
  rw [e_call, h1]
  have h8 : (nodupB (lents ws) && (ownLk r1 ws).all fun i => !(lents ws).contains i) = true := by rw [h3]; simp
  simp only [callE, h2, h8, h4, h5, if_true, h6, h7, Bool.and_self, gb_none ws fs r1 h3]
theorem j_ov {e : Ex} {w : Sl} {d : PyData} {xs : List PyData} {hs : List Nat} (h1 : evE C e r = some (w, r1)) (h2 : see r1 w = some d) (h3 : itemsOf d = some xs) (h4 : ownLk r1 [w] = hs) : evI C (.ov e) r = some (xs, hs, r1) := by
  rw [i_ov, h1]; simp only [h2, h3, h4]
theorem j_rg {es : Exs} {ws : List Sl} {ds xs : List PyData} (h1 : evEs C es r = some (ws, r1)) (h2 : seeL r1 ws = some ds) (h3 : rangeD ds = some xs) : evI C (.rg es) r = some (xs, [], r1) := by
  rw [i_rg, h1]; simp only [h2, h3]
theorem j_zp {es : Exs} {ws : List Sl} {ds xs : List PyData} {hs : List Nat} (h1 : evEs C es r = some (ws, r1)) (h2 : seeL r1 ws = some ds) (h3 : zipD ds = some xs) (h4 : ownLk r1 ws = hs) : evI C (.zp es) r = some (xs, hs, r1) := by
  rw [i_zp, h1]; simp only [h2, h3, h4]
theorem j_en {e : Ex} {w : Sl} {d : PyData} {xs : List PyData} {hs : List Nat} (h1 : evE C e r = some (w, r1)) (h2 : see r1 w = some d) (h3 : enumD d = some xs) (h4 : ownLk r1 [w] = hs) : evI C (.en e) r = some (xs, hs, r1) := by
  rw [i_en, h1]; simp only [h2, h3, h4]
/-- a turn of a comprehension -/
theorem lc_ok {t : Tg} {c e : Ex} {own : List Nat} {x y : PyData} {w : Sl} {r5 : Env} (r1 : Bx.Env) (h1 : asgT t x (killS r own) = some r1) (h2 : evE C c r1 = some (.fr (.bool true), r2)) (h3 : evE C e r2 = some (w, r3)) (h4 : fz w = some y) (h5 : killS r3 own = r5) : lcF C t c e own x r = some (some y, r5) := by
  unfold lcF
  simp only [h1, h2, h3, h4, h5]
theorem lc_if {t : Tg} {c e : Ex} {own : List Nat} {x : PyData} {b : Bool} (h1 : asgT t x (killS r own) = some r1) (h2 : evE C c r1 = some (.fr (.bool b), r2)) :
    lcF C t c e own x r = if b = true then (match evE C e r2 with
      | some (w, r4) => match fz w with
        | some y => some (some y, killS r4 own)
        | none => none
      | none => none) else some (none, killS r2 own) := by
  unfold lcF
  simp only [h1, h2]
  cases b <;> rfl
variable {α β σ : Type}
theorem compL_map {F : PyData → Env → Option (Option PyData × Env)} {ea : α → PyData} {eb : β → PyData} {f : α → Option β} (H : ∀ a b, f a = some b → F (ea a) r = some (some (eb b), r)) :
    ∀ (l : List α) (bs : List β) (acc : List PyData), acc.length + l.length ≤ SZ → mapM' f l = some bs → compL F (l.map ea) acc r = some (acc ++ bs.map eb, r)
  | [], bs, acc, _, h => by cases h; simp [compL]
  | a :: l, bs, acc, hz, h => by
    unfold mapM' at h
    split at h
    · rename_i b hb
      split at h
      · rename_i bs' hbs
        cases h
        have hz' : acc.length + l.length + 1 ≤ SZ := by simpa [Nat.add_assoc] using hz
        have := compL_map H l bs' (acc ++ [eb b]) (by rw [List.length_append, List.length_singleton]; omega) hbs
        rw [List.map_cons]
        simp only [compL, H a b hb, if_pos (show acc.length < SZ by omega), this]
        simp
      · cases h
    · cases h
theorem compL_fil {F : PyData → Env → Option (Option PyData × Env)} {ea : α → PyData} {eb : β → PyData} {p : α → Option Bool} {g : α → Option β} (H1 : ∀ a b, p a = some true → g a = some b → F (ea a) r = some (some (eb b), r)) (H2 : ∀ a, p a = some false → F (ea a) r = some (none, r)) :
    ∀ (l : List α) (bs : List β) (acc : List PyData), acc.length + l.length ≤ SZ → filM p g l = some bs → compL F (l.map ea) acc r = some (acc ++ bs.map eb, r)
  | [], bs, acc, _, h => by cases h; simp [compL]
  | a :: l, bs, acc, hz, h => by
    have hz' : acc.length + l.length + 1 ≤ SZ := by simpa [Nat.add_assoc] using hz
    unfold filM at h
    split at h
    · rename_i hp
      split at h
      · rename_i b hb
        split at h
        · rename_i bs' hbs
          cases h
          have := compL_fil H1 H2 l bs' (acc ++ [eb b]) (by rw [List.length_append, List.length_singleton]; omega) hbs
          rw [List.map_cons]
          simp only [compL, H1 a b hp hb, if_pos (show acc.length < SZ by omega), this]
          simp
        · cases h
      · cases h
    · rename_i hp
      have := compL_fil H1 H2 l bs acc (by omega) h
      rw [List.map_cons]
      simp only [compL, H2 a hp, this]
    · cases h
theorem compL_mapT {F : PyData → Env → Option (Option PyData × Env)} {ea : α → PyData} {eb : β → PyData} {E : σ → Env} {f : σ → α → Option (β × σ)} (H : ∀ s a b s1, f s a = some (b, s1) → F (ea a) (E s) = some (some (eb b), E s1)) :
    ∀ (l : List α) (s : σ) (bs : List β) (s2 : σ) (acc : List PyData), acc.length + l.length ≤ SZ → mapMT f s l = some (bs, s2) → compL F (l.map ea) acc (E s) = some (acc ++ bs.map eb, E s2)
  | [], s, bs, s2, acc, _, h => by cases h; simp [compL]
  | a :: l, s, bs, s2, acc, hz, h => by
    unfold mapMT at h
    split at h
    · rename_i b s1 hb
      split at h
      · rename_i bs' s3 hbs
        cases h
        have hz' : acc.length + l.length + 1 ≤ SZ := by simpa [Nat.add_assoc] using hz
        have := compL_mapT H l s1 bs' s2 (acc ++ [eb b]) (by rw [List.length_append, List.length_singleton]; omega) hbs
        rw [List.map_cons]
        simp only [compL, H s a b s1 hb, if_pos (show acc.length < SZ by omega), this]
        simp
      · cases h
    · cases h
theorem x_lcM {t : Tg} {it : Itr} {e : Ex} {own hs : List Nat} {l : List α} {bs : List β} {ea : α → PyData} {eb : β → PyData} {f : α → Option β} (r0 r2 : Bx.Env) (h1 : evI C it r = some (l.map ea, hs, r1)) (h2 : killS (hide r1 hs) own = r0) (h3 : back r1 r0 hs = r2)
    (h : mapS f l = some bs) (H : ∀ a b, f a = some b → lcF C t (.k (.bool true)) e own (ea a) r0 = some (some (eb b), r0)) : evE C (.lc t it (.k (.bool true)) e own) r = some (.ow (eL eb bs), r2) := by
  unfold mapS at h
  split at h
  · rename_i hz
    have := compL_map H l bs [] (by simpa using hz) h
    rw [e_lc, h1]
    simp only [h2, this, List.nil_append, h3]
    rfl
  · cases h
theorem x_lcF {t : Tg} {it : Itr} {c e : Ex} {own hs : List Nat} {l : List α} {bs : List β} {ea : α → PyData} {eb : β → PyData} {p : α → Option Bool} {g : α → Option β} (r0 r2 : Bx.Env) (h1 : evI C it r = some (l.map ea, hs, r1)) (h2 : killS (hide r1 hs) own = r0) (h3 : back r1 r0 hs = r2)
    (h : filS p g l = some bs) (H1 : ∀ a b, p a = some true → g a = some b → lcF C t c e own (ea a) r0 = some (some (eb b), r0)) (H2 : ∀ a, p a = some false → lcF C t c e own (ea a) r0 = some (none, r0)) : evE C (.lc t it c e own) r = some (.ow (eL eb bs), r2) := by
  unfold filS at h
  split at h
  · rename_i hz
    have := compL_fil H1 H2 l bs [] (by simpa using hz) h
    rw [e_lc, h1]
    simp only [h2, this, List.nil_append, h3]
    rfl
  · cases h
theorem x_lcT {t : Tg} {it : Itr} {e : Ex} {own hs : List Nat} {l : List α} {bs : List β} {s s2 : σ} {E : σ → Env} {ea : α → PyData} {eb : β → PyData} {f : σ → α → Option (β × σ)} (r2 : Bx.Env) (h1 : evI C it r = some (l.map ea, hs, r1)) (h2 : killS (hide r1 hs) own = E s) (h3 : back r1 (E s2) hs = r2)
    (h : mapT f s l = some (bs, s2)) (H : ∀ s a b s1, f s a = some (b, s1) → lcF C t (.k (.bool true)) e own (ea a) (E s) = some (some (eb b), E s1)) : evE C (.lc t it (.k (.bool true)) e own) r = some (.ow (eL eb bs), r2) := by
  unfold mapT at h
  split at h
  · rename_i hz
    have := compL_mapT H l s bs s2 [] (by simpa using hz) h
    rw [e_lc, h1]
    simp only [h2, this, List.nil_append, h3]
    rfl
  · cases h
theorem lc_no {t : Tg} {c e : Ex} {own : List Nat} {x : PyData} {r5 : Env} (r1 : Bx.Env) (h1 : asgT t x (killS r own) = some r1) (h2 : evE C c r1 = some (.fr (.bool false), r2)) (h5 : killS r2 own = r5) : lcF C t c e own x r = some (none, r5) := by
  unfold lcF
  simp only [h1, h2, h5]
end

/-! ### rules: statements -/
section
variable {C : Call} {r r1 r2 r3 : Env}
theorem t_as {t : Tg} {e : Ex} {w : Sl} (h1 : evE C e r = some (w, r1)) (h2 : Bx.asg t (frz t w) r1 = some r2) : evS C (.as t e) r = some (.nx r2) := by rw [s_as, h1]; simp only [h2]
theorem t_par {i j : Nat} {a b : Ex} {ws : List Sl} {d e : PyData} (h1 : evEs C (.cons a (.cons b .nil)) r = some (ws, r1)) (h2 : fzL ws = some [d, e]) (h3 : i ≠ j ∧ i < r1.length ∧ j < r1.length) (h4 : (r1.set i (.fr d)).set j (.fr e) = r2) : evS C (.par i j a b) r = some (.nx r2) := by
  rw [s_par, h1]; simp only [h2, if_pos h3, h4]
theorem t_sx {i : Nat} {x e : Ex} {w : Sl} {d k o0 o o' : PyData} (h1 : evE C e r = some (w, r1)) (h2 : fz w = some d) (h3 : r1[i]? = some (.ow o0)) (h4 : evE C x r1 = some (.fr k, r2)) (h5 : r2[i]? = some (.ow o)) (h6 : putD o k d = some o') (h7 : r2.set i (.ow o') = r3) : evS C (.sx i x e) r = some (.nx r3) := by
  rw [s_sx, h1]; simp only [h2, h3, h4, h5, h6, h7]
theorem t_sw {i : Nat} {x y a b : Ex} {ws : List Sl} {r4 r5 : Env} {d e o : PyData} {k1 k2 : Int} {xs xs' ys ys' : List PyData} (h1 : evEs C (.cons a (.cons b .nil)) r = some (ws, r1)) (h2 : fzL ws = some [d, e]) (h0 : r1[i]? = some (.ow o)) (h3 : evE C x r1 = some (.fr (.int k1), r2))
    (h4 : r2[i]? = some (.ow (.list xs))) (h5 : putD (.list xs) (.int k1) d = some (.list xs')) (h6 : evE C y (r2.set i (.ow (.list xs'))) = some (.fr (.int k2), r4)) (h7 : r4[i]? = some (.ow (.list ys))) (h8 : putD (.list ys) (.int k2) e = some (.list ys'))
    (h9 : r4.set i (.ow (.list ys')) = r5) : evS C (.sw i x y a b) r = some (.nx r5) := by
  have e5 : ∀ (xs : List PyData) (k : Int) (d : PyData), putD (.list xs) (.int k) d = match L2.ixN xs.length k with | some j => some (.list (xs.set j d)) | none => none := fun _ _ _ => rfl
  rw [e5] at h5 h8
  split at h5
  · rename_i j1 hj1
    cases h5
    split at h8
    · rename_i j2 hj2
      cases h8
      rw [s_sw, h1]
      simp only [h2, h3, h4, hj1, h6, h7, hj2, h0, h9]
    · cases h8
  · cases h5
theorem t_ex {e : Ex} {w : Sl} (h1 : evE C e r = some (w, r1)) : evS C (.ex e) r = some (.nx r1) := by rw [s_ex, h1]
/-- blocks one behind the other -/
def evK (C : Call) : List Ss → Env → Option Rs
  | [], r => some (.nx r)
  | b :: bs, r => match evB C b r with
    | some (.nx r1) => evK C bs r1
    | some (.rt w r1) => some (.rt w r1)
    | none => none
def Kw (C : Call) (bs : List Ss) (r : Env) (Φ : Rs → Prop) : Prop := ∃ R, evK C bs r = some R ∧ Φ R
variable {Φ : Rs → Prop} {bs : List Ss}
theorem k_nil (h : Φ (.nx r)) : Kw C [] r Φ := ⟨_, rfl, h⟩
theorem k_pop (h : Kw C bs r Φ) : Kw C (.nil :: bs) r Φ := h
theorem k_one {b : Ss} (h : Kw C [b] r Φ) : ∃ R, evB C b r = some R ∧ Φ R := by
  obtain ⟨R, h1, h2⟩ := h
  unfold evK at h1
  split at h1
  · rename_i q e; cases h1; exact ⟨_, e, h2⟩
  · rename_i q e; cases h1; exact ⟨_, e, h2⟩
  · cases h1
theorem k_st {s : S} {q : Ss} (h1 : evS C s r = some (.nx r1)) (h : Kw C (q :: bs) r1 Φ) : Kw C (.cons s q :: bs) r Φ := by
  obtain ⟨R, a, b⟩ := h
  refine ⟨R, ?_, b⟩
  unfold evK at a ⊢
  rw [b_cons, h1]
  exact a
theorem k_rs {s : S} {q : Ss} {w : Sl} (h1 : evS C s r = some (.rt w r1)) (h : Φ (.rt w r1)) : Kw C (.cons s q :: bs) r Φ := by
  refine ⟨_, ?_, h⟩
  unfold evK
  rw [b_cons, h1]
theorem k_rt {e : Ex} {q : Ss} {d : PyData} (h1 : evE C e r = some (.fr d, r1)) (h : Φ (.rt (.fr d) r1)) : Kw C (.cons (.rt e) q :: bs) r Φ := k_rs (by rw [s_rt, h1]) h
theorem k_rto {e : Ex} {q : Ss} {d : PyData} (h1 : evE C e r = some (.ow d, r1)) (h : Φ (.rt (.ow d) r1)) : Kw C (.cons (.rt e) q :: bs) r Φ := k_rs (by rw [s_rt, h1]) h
theorem evK_app {q : Ss} : ∀ (b : Ss) (r : Env), evB C b r = none → evK C (b :: bs) r = none := fun b r h => by unfold evK; rw [h]
theorem s_tr {b : Ss} : evS C (.tr b) r = evB C b r := by simp only [evS]
theorem k_tr {b q : Ss} (h : Kw C (b :: q :: bs) r Φ) : Kw C (.cons (.tr b) q :: bs) r Φ := by
  obtain ⟨R, h2, h3⟩ := h
  refine ⟨R, ?_, h3⟩
  unfold evK at h2 ⊢
  rw [b_cons, s_tr]
  cases hx : evB C b r with
  | none => rw [hx] at h2; exact h2
  | some R1 =>
    rw [hx] at h2
    cases R1 with
    | nx r2 => exact h2
    | rt w r2 => exact h2
theorem k_if {c : Ex} {a b q : Ss} {t : Bool} (h1 : evE C c r = some (.fr (.bool t), r1)) (ht : t = true → Kw C (a :: q :: bs) r1 Φ) (hf : t = false → Kw C (b :: q :: bs) r1 Φ) : Kw C (.cons (.iff c a b) q :: bs) r Φ := by
  have two : ∀ x : Ss, evS C (.iff c a b) r = evB C x r1 → Kw C (x :: q :: bs) r1 Φ → Kw C (.cons (.iff c a b) q :: bs) r Φ := fun x e ⟨R, h2, h3⟩ => by
    refine ⟨R, ?_, h3⟩
    unfold evK at h2 ⊢
    rw [b_cons, e]
    cases hx : evB C x r1 with
    | none => rw [hx] at h2; exact h2
    | some R1 =>
      rw [hx] at h2
      cases R1 with
      | nx r2 => exact h2
      | rt w r2 => exact h2
  cases t with
  | true => exact two a (by rw [s_iff, h1]) (ht rfl)
  | false => exact two b (by rw [s_iff, h1]) (hf rfl)
variable {α σ ρ : Type}
theorem forL_S {f : PyData → Env → Option Rs} {kill : List Nat} {ea : α → PyData} {E : σ → Env} {g : σ → α → Option σ} (H : ∀ s a s1, g s a = some s1 → ∃ r2, f (ea a) (E s) = some (.nx r2) ∧ killS r2 kill = E s1) :
    ∀ (l : List α) (s s2 : σ), forS g s l = some s2 → forL f kill (l.map ea) (E s) = some (.nx (E s2))
  | [], s, s2, h => by cases h; rfl
  | a :: l, s, s2, h => by
    unfold forS at h
    split at h
    · rename_i s1 h1
      obtain ⟨r2, e1, e2⟩ := H s a s1 h1
      rw [List.map_cons]
      simp only [forL, e1, e2]
      exact forL_S H l s1 s2 h
    · cases h
theorem forL_R {f : PyData → Env → Option Rs} {kill : List Nat} {ea : α → PyData} {E : σ → Env} {g : σ → α → Option (Rr σ ρ)} {Ψ : ρ → Rs → Prop} (H : ∀ s a s1, g s a = some (.nx s1) → ∃ r2, f (ea a) (E s) = some (.nx r2) ∧ killS r2 kill = E s1)
    (H2 : ∀ s a v, g s a = some (.rt v) → ∃ w r2, f (ea a) (E s) = some (.rt w r2) ∧ Ψ v (.rt w r2)) :
    ∀ (l : List α) (s : σ) (res : Rr σ ρ), forR g s l = some res → (∃ s2, res = .nx s2 ∧ forL f kill (l.map ea) (E s) = some (.nx (E s2))) ∨ (∃ v w r2, res = .rt v ∧ forL f kill (l.map ea) (E s) = some (.rt w r2) ∧ Ψ v (.rt w r2))
  | [], s, res, h => by cases h; exact .inl ⟨s, rfl, rfl⟩
  | a :: l, s, res, h => by
    unfold forR at h
    rw [List.map_cons]
    split at h
    · rename_i s1 h1
      obtain ⟨r2, e1, e2⟩ := H s a s1 h1
      simp only [forL, e1, e2]
      exact forL_R H H2 l s1 res h
    · rename_i v h1
      cases h
      obtain ⟨w, r2, e1, e2⟩ := H2 s a v h1
      simp only [forL, e1]
      exact .inr ⟨v, w, r2, rfl, rfl, e2⟩
    · cases h
theorem whL_S {c : Env → Option (Sl × Env)} {b : Env → Option Rs} {kill : List Nat} {E : σ → Env} {p : σ → Option Bool} {g : σ → Option σ} (Hc : ∀ s t, p s = some t → c (E s) = some (.fr (.bool t), E s)) (H : ∀ s s1, p s = some true → g s = some s1 → ∃ r2, b (E s) = some (.nx r2) ∧ killS r2 kill = E s1) :
    ∀ (n : Nat) (s s2 : σ), whS p g n s = some s2 → whileL c b kill n (E s) = some (.nx (E s2))
  | 0, s, s2, h => by cases h
  | n + 1, s, s2, h => by
    unfold whS at h
    split at h
    · rename_i hp
      split at h
      · rename_i s1 h1
        obtain ⟨r2, e1, e2⟩ := H s s1 hp h1
        simp only [whileL, Hc s _ hp, e1, e2]
        exact whL_S Hc H n s1 s2 h
      · cases h
    · rename_i hp
      cases h
      simp only [whileL, Hc s _ hp]
    · cases h
theorem whL_R {c : Env → Option (Sl × Env)} {b : Env → Option Rs} {kill : List Nat} {E : σ → Env} {p : σ → Option Bool} {g : σ → Option (Rr σ ρ)} {Ψ : ρ → Rs → Prop} (Hc : ∀ s t, p s = some t → c (E s) = some (.fr (.bool t), E s)) (H : ∀ s s1, p s = some true → g s = some (.nx s1) → ∃ r2, b (E s) = some (.nx r2) ∧ killS r2 kill = E s1)
    (H2 : ∀ s v, p s = some true → g s = some (.rt v) → ∃ w r2, b (E s) = some (.rt w r2) ∧ Ψ v (.rt w r2)) :
    ∀ (n : Nat) (s : σ) (res : Rr σ ρ), whR p g n s = some res → (∃ s2, res = .nx s2 ∧ whileL c b kill n (E s) = some (.nx (E s2))) ∨ (∃ v w r2, res = .rt v ∧ whileL c b kill n (E s) = some (.rt w r2) ∧ Ψ v (.rt w r2))
  | 0, s, res, h => by cases h
  | n + 1, s, res, h => by
    unfold whR at h
    split at h
    · rename_i hp
      split at h
      · rename_i s1 h1
        obtain ⟨r2, e1, e2⟩ := H s s1 hp h1
        simp only [whileL, Hc s _ hp, e1, e2]
        exact whL_R Hc H H2 n s1 res h
      · rename_i v h1
        cases h
        obtain ⟨w, r2, e1, e2⟩ := H2 s v hp h1
        simp only [whileL, Hc s _ hp, e1]
        exact .inr ⟨v, w, r2, rfl, rfl, e2⟩
      · cases h
    · rename_i hp
      cases h
      exact .inl ⟨s, rfl, by simp only [whileL, Hc s _ hp]⟩
    · cases h
/-- what a turn of a loop must come to -/
def Nx (kill : List Nat) (r : Env) : Rs → Prop := fun R => ∃ r2, R = .nx r2 ∧ killS r2 kill = r
theorem nx_i {kill : List Nat} {r r2 : Env} (h : killS r2 kill = r) : Nx kill r (.nx r2) := ⟨r2, rfl, h⟩
/-- .. of a loop that may be left by return -/
def Nr (kill : List Nat) (E : σ → Env) (Ψ : ρ → Rs → Prop) : Rr σ ρ → Rs → Prop
  | .nx s => Nx kill (E s)
  | .rt v => fun R => ∃ w r2, R = .rt w r2 ∧ Ψ v (.rt w r2)
theorem nr_n {kill : List Nat} {E : σ → Env} {Ψ : ρ → Rs → Prop} {s : σ} {r2 : Env} (h : killS r2 kill = E s) : Nr kill E Ψ (.nx s) (.nx r2) := ⟨r2, rfl, h⟩
theorem nr_r {kill : List Nat} {E : σ → Env} {Ψ : ρ → Rs → Prop} {v : ρ} {w : Sl} {r2 : Env} (h : Ψ v (.rt w r2)) : Nr kill E Ψ (.rt v) (.rt w r2) := ⟨w, r2, rfl, h⟩
/-- a loop's return, behind hidden slots that come back -/
def Bk (o : Env) (hs : List Nat) (Ψ : ρ → Rs → Prop) : ρ → Rs → Prop := fun v R => Ψ v (backR o hs R)
theorem turn {t : Tg} {b : Ss} {x : PyData} {Φ : Rs → Prop} (h1 : asgT t x r = some r1) (h2 : Kw C [b] r1 Φ) : ∃ R, foF C t b x r = some R ∧ Φ R := by
  obtain ⟨R, e, q⟩ := k_one h2
  exact ⟨R, by unfold foF; simp only [h1]; exact e, q⟩
theorem t_for {t : Tg} {it : Itr} {b : Ss} {kill hs : List Nat} {l : List α} {ea : α → PyData} {E : σ → Env} {g : σ → α → Option σ} {s0 s2 : σ} (h1 : evI C it r = some (l.map ea, hs, r1)) (h2 : hs.all (fun i => !(t.st ++ b.st).contains i) = true) (h3 : killS (hide r1 hs) kill = E s0) (h : forS g s0 l = some s2)
    (h4 : back r1 (E s2) hs = r2) (H : ∀ s a s1, g s a = some s1 → ∃ R, foF C t b (ea a) (E s) = some R ∧ Nx kill (E s1) R) : evS C (.fo t it b kill) r = some (.nx r2) := by
  have := forL_S (f := foF C t b) (kill := kill) (ea := ea) (E := E) (fun s a s1 hg => by
    obtain ⟨R, e1, r3, e2, e3⟩ := H s a s1 hg
    subst e2
    exact ⟨r3, e1, e3⟩) l s0 s2 h
  rw [s_fo, h1]
  simp only [h2, if_true, h3, this, br_nx, h4]
theorem k_forR {t : Tg} {it : Itr} {b q : Ss} {kill hs : List Nat} {l : List α} {ea : α → PyData} {E : σ → Env} {g : σ → α → Option (Rr σ ρ)} {s0 : σ} {res : Rr σ ρ} {A : Type} {mk : ρ → A} {Ψ : A → Rs → Prop} {v : A} (h1 : evI C it r = some (l.map ea, hs, r1)) (h2 : hs.all (fun i => !(t.st ++ b.st).contains i) = true)
    (h3 : killS (hide r1 hs) kill = E s0) (h : forR g s0 l = some res) (H : ∀ s a R, g s a = some R → ∃ Q, foF C t b (ea a) (E s) = some Q ∧ Nr kill E (Bk r1 hs fun v => Ψ (mk v)) R Q) (hn : ∀ s2, res = .nx s2 → Kw C (q :: bs) (back r1 (E s2) hs) (Ψ v)) (hr : ∀ u, res = .rt u → mk u = v) :
    Kw C (.cons (.fo t it b kill) q :: bs) r (Ψ v) := by
  rcases forL_R (f := foF C t b) (kill := kill) (ea := ea) (E := E) (Ψ := Bk r1 hs fun v => Ψ (mk v)) (fun s a s1 hg => by
    obtain ⟨Q, e1, r3, e2, e3⟩ := H s a _ hg
    subst e2
    exact ⟨r3, e1, e3⟩) (fun s a v hg => by
    obtain ⟨Q, e1, w, r3, e2, e3⟩ := H s a _ hg
    subst e2
    exact ⟨w, r3, e1, e3⟩) l s0 res h with ⟨s2, e, h5⟩ | ⟨u, w, r2, e, h5, h6⟩
  · exact k_st (by rw [s_fo, h1]; simp only [h2, if_true, h3, h5, br_nx]) (hn s2 e)
  · refine k_rs (w := w) (r1 := back r1 r2 hs) (by rw [s_fo, h1]; simp only [h2, if_true, h3, h5, br_rt]) ?_
    rw [← hr u e]
    exact h6
theorem t_wh {c : Ex} {b : Ss} {kill : List Nat} {E : σ → Env} {p : σ → Option Bool} {g : σ → Option σ} {s0 s2 : σ} (h3 : killS r kill = E s0) (h : whS p g TURNS s0 = some s2) (Hc : ∀ s t, p s = some t → evE C c (E s) = some (.fr (.bool t), E s)) (H : ∀ s s1, p s = some true → g s = some s1 → Kw C [b] (E s) (Nx kill (E s1))) : evS C (.wh c b kill) r = some (.nx (E s2)) := by
  rw [s_wh, h3]
  exact whL_S Hc (fun s s1 hp hg => by
    obtain ⟨R, e1, r3, e2, e3⟩ := k_one (H s s1 hp hg)
    subst e2
    exact ⟨r3, e1, e3⟩) TURNS s0 s2 h
theorem k_whR {c : Ex} {b q : Ss} {kill : List Nat} {E : σ → Env} {p : σ → Option Bool} {g : σ → Option (Rr σ ρ)} {s0 : σ} {res : Rr σ ρ} {A : Type} {mk : ρ → A} {Ψ : A → Rs → Prop} {v : A} (h3 : killS r kill = E s0) (h : whR p g TURNS s0 = some res) (Hc : ∀ s t, p s = some t → evE C c (E s) = some (.fr (.bool t), E s))
    (H : ∀ s R, p s = some true → g s = some R → Kw C [b] (E s) (Nr kill E (fun v => Ψ (mk v)) R)) (hn : ∀ s2, res = .nx s2 → Kw C (q :: bs) (E s2) (Ψ v)) (hr : ∀ u, res = .rt u → mk u = v) :
    Kw C (.cons (.wh c b kill) q :: bs) r (Ψ v) := by
  rcases whL_R (c := evE C c) (b := evB C b) (kill := kill) (E := E) (Ψ := fun v => Ψ (mk v)) Hc (fun s s1 hp hg => by
    obtain ⟨R, e1, r3, e2, e3⟩ := k_one (H s _ hp hg)
    subst e2
    exact ⟨r3, e1, e3⟩) (fun s v hp hg => by
    obtain ⟨Q, e1, w, r3, e2, e3⟩ := k_one (H s _ hp hg)
    subst e2
    exact ⟨w, r3, e1, e3⟩) TURNS s0 res h with ⟨s2, e, h5⟩ | ⟨u, w, r2, e, h5, h6⟩
  · exact k_st (by rw [s_wh, h3]; exact h5) (hn s2 e)
  · refine k_rs (by rw [s_wh, h3]; exact h5) ?_
    rw [← hr u e]
    exact h6
/-- a def's end -/
def Fin (ws : List Sl) (np : Nat) (w : Sl) (fs : List Sl) : Rs → Prop
  | .rt u r => u = w ∧ finals ws r = fs ∧ np ≤ r.length
  | .nx r => w = .fr .none ∧ finals ws r = fs ∧ np ≤ r.length
theorem run_ok {np ns : Nat} {b : Ss} {asg : List Nat} {ws fs : List Sl} {w : Sl} (h1 : ws.length = np) (h2 : lentOk asg 0 ws = true) (hw : isV w = true) (h : Kw C [b] (ws ++ List.replicate (ns - np) .no) (Fin ws np w fs)) : runFn C ⟨np, ns, b, asg⟩ ws = some (w, fs) := by
  obtain ⟨R, e, q⟩ := k_one h
  rw [run_mk, if_pos h1, if_pos h2, e]
  cases R with
  | nx r =>
    obtain ⟨a, b, c⟩ := q
    subst a
    simp only [if_pos c, b]
  | rt u r =>
    obtain ⟨a, b, c⟩ := q
    subst a
    simp only [hw, c, decide_true, Bool.and_self, if_true, b]
end
end Bx

set_option Elab.async false
set_option linter.all false
set_option maxRecDepth 100000
set_option autoImplicit false
set_option maxHeartbeats 4000000
/-! More typed steps. -/
namespace Bx
open PySem PySem.Spec PySem.W
section
variable {α β γ σ ρ A : Type} {C : Call} {r r1 r2 r3 : Env} {Φ : Rs → Prop} {bs : List Ss}
abbrev onR (res : Rr σ ρ) (kr : ρ → Option A) (kn : σ → Option A) : Option A := match res with
  | .nx s => kn s
  | .rt v => kr v
theorem k_env (e : r = r2) (h : Kw C bs r2 Φ) : Kw C bs r Φ := e ▸ h
def FinV (ws : List Sl) (np : Nat) (W : ρ → Sl) (F : ρ → List Sl) (v : ρ) : Rs → Prop := fun R => Fin ws np (W v) (F v) R
theorem run_okV {np ns : Nat} {b : Ss} {asg : List Nat} {ws : List Sl} {W : ρ → Sl} {F : ρ → List Sl} {v : ρ} (h1 : ws.length = np) (h2 : lentOk asg 0 ws = true) (hw : isV (W v) = true) (h : Kw C [b] (ws ++ List.replicate (ns - np) .no) (FinV ws np W F v)) : runFn C ⟨np, ns, b, asg⟩ ws = some (W v, F v) := run_ok h1 h2 hw h
theorem fin_rt {ws : List Sl} {np : Nat} {W : ρ → Sl} {F : ρ → List Sl} {v : ρ} {u : Sl} {r : Env} (h1 : u = W v) (h2 : finals ws r = F v) (h3 : np ≤ r.length) : FinV ws np W F v (.rt u r) := ⟨h1, h2, h3⟩
theorem fin_nx {ws : List Sl} {np : Nat} {W : ρ → Sl} {F : ρ → List Sl} {v : ρ} {r : Env} (h1 : W v = .fr .none) (h2 : finals ws r = F v) (h3 : np ≤ r.length) : FinV ws np W F v (.nx r) := ⟨h1, h2, h3⟩
theorem bk_r {o : Bx.Env} {hs : List Nat} {Ψ : ρ → Rs → Prop} {v : ρ} {w : Sl} {r : Bx.Env} (h : Ψ v (.rt w (back o r hs))) : Bk o hs Ψ v (.rt w r) := h
theorem x_letF {e : α → PyData} {a : Ex} {t x : α} (h : some t = some x) (h1 : evE C a r = some (.fr (e t), r1)) : evE C a r = some (.fr (e x), r1) := by cases h; exact h1
theorem x_letO {e : α → PyData} {a : Ex} {t x : α} (h : some t = some x) (h1 : evE C a r = some (.ow (e t), r1)) : evE C a r = some (.ow (e x), r1) := by cases h; exact h1
theorem x_is {a : Ex} {b c : Bool} (h : b = c) (h1 : evE C a r = some (.fr (.bool b), r1)) : evE C a r = some (.fr (.bool c), r1) := by cases h; exact h1
/-- behind a test: one road for both, what is dead left open -/
theorem k_ifJ {Z : Type} {env : Z → Env} {c : Ex} {a b q : Ss} {t : Bool} (h1 : evE C c r = some (.fr (.bool t), r1)) (ht : t = true → Kw C [a] r1 (fun R => ∃ z, R = .nx (env z))) (hf : t = false → Kw C [b] r1 (fun R => ∃ z, R = .nx (env z)))
    (h : ∀ z, Kw C (q :: bs) (env z) Φ) : Kw C (.cons (.iff c a b) q :: bs) r Φ := by
  cases t with
  | true =>
    obtain ⟨R, e, z, rfl⟩ := k_one (ht rfl)
    exact k_st (by rw [s_iff, h1]; exact e) (h z)
  | false =>
    obtain ⟨R, e, z, rfl⟩ := k_one (hf rfl)
    exact k_st (by rw [s_iff, h1]; exact e) (h z)
/-- a power of two given numbers -/
def pw (i j : Int) : Int := i ^ j.toNat
theorem b_powk {i j : Int} (h : 0 ≤ j ∧ j ≤ 1000000 ∧ i.natAbs < 2 ^ 64) : binD .pow (.int i) (.int j) = some (.fr (.int (pw i j))) := by rw [bin_pow, if_pos h]; rfl
theorem x_rv {a : Ex} {x w : Sl} {d : PyData} (h1 : evE C a r = some (x, r1)) (h2 : see r1 x = some d) (h3 : revD d = some w) : evE C (.rv a) r = some (w, r1) := by
  rw [e_rv, h1]; simp only [h2, h3]
theorem g_rvL (e : α → PyData) (xs : List α) : revD (eL e xs) = some (.ow (eL e xs.reverse)) := by
  show some (Sl.ow (.list (xs.map e).reverse)) = _
  rw [← List.map_reverse]; rfl
theorem g_rvT (e : α → PyData) (xs : List α) : revD (eT e xs) = some (.fr (eT e xs.reverse)) := by
  show some (Sl.fr (.tuple (xs.map e).reverse)) = _
  rw [← List.map_reverse]; rfl
def insS (xs : List α) (i : Int) (y : α) : Option (List α) := if xs.length < SZ ∧ 0 ≤ i ∧ i < 9223372036854775808 then some (xs.take i.toNat ++ [y] ++ xs.drop i.toNat) else none
theorem m_ins {e : α → PyData} {xs ys : List α} {i : Int} {y : α} (h : insS xs i y = some ys) : muD .insert (xs.map e) [.int i, e y] = some (.none, ys.map e) := by
  unfold insS at h
  split at h
  · rename_i hc
    cases h
    simp only [muD, List.length_map, if_pos hc, List.map_append, List.map_take, List.map_drop, List.map_cons, List.map_nil]
  · cases h
/-- a list unpacked: two, three -/
def un2 : List α → Option (α × α)
  | [a, b] => some (a, b)
  | _ => none
def un3 : List α → Option (α × α × α)
  | [a, b, c] => some (a, b, c)
  | _ => none
theorem u_2 {e : α → PyData} {xs : List α} {p : α × α} (h : un2 xs = some p) : xs = [p.1, p.2] := by
  match xs, h with
  | [a, b], h => cases h; rfl
theorem u_3 {e : α → PyData} {xs : List α} {p : α × α × α} (h : un3 xs = some p) : xs = [p.1, p.2.1, p.2.2] := by
  match xs, h with
  | [a, b, c], h => cases h; rfl
theorem x_chS {o p : COp} {a b c : Ex} {x y : Sl} {d e : PyData} {t v : Bool} {m : Option Bool} (h : anS t m = some v) (h1 : evE C a r = some (x, r1)) (h2 : evE C b r1 = some (y, r2)) (h3 : see r2 x = some d) (h4 : see r2 y = some e) (h5 : cmpD o d e = some t)
    (h6 : ∀ u, t = true → m = some u → ∃ z e' g, evE C c r2 = some (z, r2) ∧ see r2 y = some e' ∧ see r2 z = some g ∧ cmpD p e' g = some u) : evE C (.ch o p a b c) r = some (.fr (.bool v), r2) := by
  rw [e_ch, h1]; simp only [h2, h3, h4, h5]
  cases t with
  | false => cases h; rfl
  | true =>
    obtain ⟨z, e', g, a1, a2, a3, a4⟩ := h6 v rfl h
    simp only [a1, a2, a3, a4]
def anT (x : Bool) (m : Option (Bool × σ)) (s : σ) : Option (Bool × σ) := if x = true then m else some (false, s)
def orT (x : Bool) (m : Option (Bool × σ)) (s : σ) : Option (Bool × σ) := if x = true then some (true, s) else m
theorem x_anT {a b : Ex} {x : Bool} {z : Bool × σ} {m : Option (Bool × σ)} {E : σ → Bx.Env} {s0 : σ} (h : anT x m s0 = some z) (h1 : evE C a r = some (.fr (.bool x), E s0)) (h2 : ∀ y, x = true → m = some y → evE C b (E s0) = some (.fr (.bool y.1), E y.2)) : evE C (.an a b) r = some (.fr (.bool z.1), E z.2) := by
  rw [e_an, h1]
  cases x with
  | false => cases h; rfl
  | true => simp only [h2 z rfl h]
theorem x_orT {a b : Ex} {x : Bool} {z : Bool × σ} {m : Option (Bool × σ)} {E : σ → Bx.Env} {s0 : σ} (h : orT x m s0 = some z) (h1 : evE C a r = some (.fr (.bool x), E s0)) (h2 : ∀ y, x = false → m = some y → evE C b (E s0) = some (.fr (.bool y.1), E y.2)) : evE C (.orr a b) r = some (.fr (.bool z.1), E z.2) := by
  rw [e_orr, h1]
  cases x with
  | true => cases h; rfl
  | false => simp only [h2 z rfl h]
theorem x_fznF {a : Ex} {d : PyData} (h : evE C a r = some (.fr d, r1)) : evE C (.fzn a) r = some (.fr d, r1) := by rw [e_fzn, h]
theorem x_fznL {a : Ex} {e : α → PyData} {xs : List α} (h : evE C a r = some (.ow (eL e xs), r1)) : evE C (.fzn a) r = some (.fr (eL e xs), r1) := by
  rw [e_fzn, h]
  rfl
/-- list(range(..)) -/
def lrS (m : Option (List Int)) : Option (List Int) := m.bind fun l => if l.length ≤ SZ then some l else none
theorem lrS_of {m : Option (List Int)} {xs : List Int} (h : lrS m = some xs) : m = some xs ∧ xs.length ≤ SZ := by
  unfold lrS at h
  cases m with
  | none => cases h
  | some l =>
    rw [Option.bind_some] at h
    split at h
    · cases h; exact ⟨rfl, by assumption⟩
    · cases h
theorem x_lr1 {a : Ex} {i : Int} {xs : List Int} (h1 : evE C a r = some (.fr (.int i), r1)) (h : lrS (rgS i) = some xs) : evE C (.lr1 a) r = some (.ow (eL PyData.int xs), r1) := by
  obtain ⟨e, z⟩ := lrS_of h
  rw [e_lr1, h1]
  simp only [r_1 e]
  rw [if_pos (by rw [List.length_map]; exact z)]
  rfl
theorem x_lr2 {a b : Ex} {i j : Int} {xs : List Int} (h1 : evE C a r = some (.fr (.int i), r1)) (h2 : evE C b r1 = some (.fr (.int j), r2)) (h : lrS (rg2S i j) = some xs) : evE C (.lr2 a b) r = some (.ow (eL PyData.int xs), r2) := by
  obtain ⟨e, z⟩ := lrS_of h
  rw [e_lr2, h1]
  simp only [h2, r_2 e]
  rw [if_pos (by rw [List.length_map]; exact z)]
  rfl
/-- list(zip(x, y)) -/
def lzS (xs : List α) (ys : List β) : Option (List (α × β)) := if (xs.zip ys).length ≤ SZ then some (xs.zip ys) else none
theorem x_lz {es : Exs} {ws : List Sl} {a b : PyData} {e1 : α → PyData} {e2 : β → PyData} {xs : List α} {ys : List β} {zs : List (α × β)} (h1 : evEs C es r = some (ws, r1)) (h2 : seeL r1 ws = some [a, b]) (h3 : itemsOf a = some (xs.map e1)) (h4 : itemsOf b = some (ys.map e2)) (h : lzS xs ys = some zs) :
    evE C (.lz es) r = some (.ow (eL (eP2 e1 e2) zs), r1) := by
  unfold lzS at h
  split at h
  · rename_i hz
    cases h
    rw [e_lz, h1]
    simp only [h2, z_2 h3 h4]
    rw [if_pos ⟨rfl, by rw [List.length_map]; exact hz⟩]
    rfl
  · cases h
/-! ### what raises -/
/-- the block raises c -/
def Kx (C : Call) (b : Ss) (r : Env) (c : Str) : Prop := evB C b r = none ∧ ∃ r', xB C b r = some (c, r')
theorem kx_st {s : S} {q : Ss} {c : Str} (h1 : evS C s r = some (.nx r1)) (h : Kx C q r1 c) : Kx C (.cons s q) r c := by
  obtain ⟨a, r', b⟩ := h
  refine ⟨by rw [b_cons, h1]; exact a, r', ?_⟩
  simp only [xB, h1]
  exact b
theorem kx_s {s : S} {q : Ss} {c : Str} {r' : Env} (h1 : evS C s r = none) (h2 : xS C s r = some (c, r')) : Kx C (.cons s q) r c := by
  refine ⟨by rw [b_cons, h1], r', ?_⟩
  simp only [xB, h1]
  exact h2
theorem kx_rs {q : Ss} {c : Str} : Kx C (.cons (.rs c) q) r c := kx_s (r' := r) (by simp only [evS]) (by simp only [xS])
theorem kx_ifT {e : Ex} {a b q : Ss} {c : Str} (h1 : evE C e r = some (.fr (.bool true), r1)) (h : Kx C a r1 c) : Kx C (.cons (.iff e a b) q) r c := by
  obtain ⟨x, r', y⟩ := h
  exact kx_s (r' := r') (by rw [s_iff, h1]; exact x) (by simp only [xS, h1]; exact y)
theorem kx_ifF {e : Ex} {a b q : Ss} {c : Str} (h1 : evE C e r = some (.fr (.bool false), r1)) (h : Kx C b r1 c) : Kx C (.cons (.iff e a b) q) r c := by
  obtain ⟨x, r', y⟩ := h
  exact kx_s (r' := r') (by rw [s_iff, h1]; exact x) (by simp only [xS, h1]; exact y)
/-- an expression that raises c -/
def Ke (C : Call) (e : Ex) (r : Env) (c : Str) (r' : Env) : Prop := evE C e r = none ∧ xE C e r = some (c, r')
theorem ke_call {f : Nat} {es : Exs} {ws as fs : List Sl} {c : Str} (h1 : evEs C es r = some (ws, r1)) (h2 : argsOf r1 ws = some as) (h3 : (nodupB (lents ws) && (ownLk r1 ws).all fun i => !(lents ws).contains i) = true) (h4 : C f as = some (.rz c, fs)) :
    Ke C (.call f es) r c (giveBack r1 ws (ws.map fun _ => Sl.no)) := by
  refine ⟨?_, ?_⟩
  · simp only [evE, h1]
    unfold callE
    rw [h2]
    simp only
    rw [if_pos h3, h4]
    simp [isV]
  · simp only [xE, h1]
    unfold xcall
    rw [h2]
    simp only
    rw [if_pos h3, h4]
theorem ke_bt1 {b : Bt} {e : Ex} {c : Str} {r' : Env} (h : Ke C e r c r') : Ke C (.bt b (.cons e .nil)) r c r' := by
  obtain ⟨x, y⟩ := h
  refine ⟨?_, ?_⟩
  · simp only [evE, evEs, x]
  · simp only [xE, xEs, x]
    exact y
theorem kx_ex {e : Ex} {q : Ss} {c : Str} {r' : Env} (h : Ke C e r c r') : Kx C (.cons (.ex e) q) r c := kx_s (r' := r') (by simp only [evS, h.1]) (by simp only [xS]; exact h.2)
theorem kx_rt {e : Ex} {q : Ss} {c : Str} {r' : Env} (h : Ke C e r c r') : Kx C (.cons (.rt e) q) r c := kx_s (r' := r') (by simp only [evS, h.1]) (by simp only [xS]; exact h.2)
theorem kx_as {t : Tg} {e : Ex} {q : Ss} {c : Str} {r' : Env} (h : Ke C e r c r') : Kx C (.cons (.as t e) q) r c := kx_s (r' := r') (by simp only [evS, h.1]) (by simp only [xS]; exact h.2)
/-- a def that raises c -/
theorem runX_ok {np ns : Nat} {b : Ss} {asg : List Nat} {ws : List Sl} {c : Str} (h1 : ws.length = np) (h2 : lentOk asg 0 ws = true) (h : Kx C b (ws ++ List.replicate (ns - np) .no) c) : runFn C ⟨np, ns, b, asg⟩ ws = some (.rz c, []) := by
  obtain ⟨x, r', y⟩ := h
  rw [run_mk, if_pos h1, if_pos h2, x]
  simp only [y]
/-- a try whose body runs through -/
theorem k_tx {i j : Nat} {hs : List Str} {b q : Ss} (h : Kw C (b :: q :: bs) r Φ) : Kw C (.cons (.tx i j hs b) q :: bs) r Φ := by
  obtain ⟨R, h2, h3⟩ := h
  refine ⟨R, ?_, h3⟩
  unfold evK at h2 ⊢
  rw [b_cons]
  simp only [evS]
  cases hx : evB C b r with
  | none => rw [hx] at h2; cases h2
  | some R1 =>
    rw [hx] at h2
    cases R1 with
    | nx r2 => exact h2
    | rt w r2 => exact h2
/-- a try whose body raises -/
theorem k_txX {i j : Nat} {hs : List Str} {t : Tg} {e : Ex} {q : Ss} {c : Str} {r' : Env} (h : Ke C e r c r') (hc : hs.contains c = true) (hi : i < r'.length) (hij : i ≠ j) (h2 : Kw C (q :: bs) ((r'.set j .no).set i (.ex c)) Φ) :
    Kw C (.cons (.tx i j hs (.cons (.as t e) .nil)) q :: bs) r Φ := by
  obtain ⟨R, a, b⟩ := h2
  refine ⟨R, ?_, b⟩
  have e1 : evB C (.cons (.as t e) .nil) r = none := by rw [b_cons]; simp only [evS, h.1]
  have e2 : xB C (.cons (.as t e) .nil) r = some (c, r') := by
    simp only [xB, evS, h.1, xS]
    exact h.2
  have e3 : evS C (.tx i j hs (.cons (.as t e) .nil)) r = some (.nx ((r'.set j .no).set i (.ex c))) := by
    unfold evS
    rw [e1]
    simp only [e2]
    rw [if_pos ⟨hc, hi, hij⟩]
  unfold evK at a ⊢
  rw [b_cons, e3]
  exact a
theorem x_xv {i : Nat} {c : Str} (h : r[i]? = some (.ex c)) : evE C (.xv i) r = some (.ex c, r) := by simp only [evE, h]
theorem x_xnnX {i : Nat} {c : Str} (h : r[i]? = some (.ex c)) : evE C (.xnn i) r = some (.fr (.bool true), r) := by simp only [evE, h]
theorem x_xnn0 {i : Nat} (h : r[i]? = some (.fr .none)) : evE C (.xnn i) r = some (.fr (.bool false), r) := by simp only [evE, h]
theorem x_isx {i : Nat} {al ts : List Str} {c : Str} (h : r[i]? = some (.ex c)) (hc : al.contains c = true) : evE C (.isx i al ts) r = some (.fr (.bool (ts.contains c)), r) := by
  simp only [evE, h]
  rw [if_pos hc]
def isTyA (ts : List Ty) (d : PyData) : Bool := ts.any (isTy d)
/-- a slot that may be filled -/
def oS (e : α → PyData) : Option α → Sl
  | none => .no
  | some a => .fr (e a)
/-- so many times -/
def repLS (xs : List α) (k : Int) : Option (List α) := if -4611686018427387904 ≤ k ∧ k < 4611686018427387904 ∧ xs.length * k.toNat ≤ SZ then some (List.replicate k.toNat xs).flatten else none
def repTS (xs : List α) (k : Int) : Option (List α) := if xs ≠ [] ∧ 1 ≤ k ∧ k ≤ 1000 ∧ xs.length ≤ 1000 then some (List.replicate k.toNat xs).flatten else none
theorem rep_map (e : α → PyData) (n : Nat) (xs : List α) : (List.replicate n (xs.map e)).flatten = ((List.replicate n xs).flatten).map e := by
  rw [List.map_flatten, List.map_replicate]
theorem x_rep {a b : Ex} {x w : Sl} {k : Int} (h1 : evE C a r = some (x, r1)) (h2 : evE C b r1 = some (.fr (.int k), r2)) (h3 : repD r2 x k = some w) : evE C (.rep a b) r = some (w, r2) := by
  rw [e_rep, h1]; simp only [h2, h3]
theorem g_repL {e : α → PyData} {xs ys : List α} {k : Int} (h : repLS xs k = some ys) : repD r (.ow (eL e xs)) k = some (.ow (eL e ys)) := by
  unfold repLS at h
  split at h
  · rename_i hc
    cases h
    show (if -4611686018427387904 ≤ k ∧ k < 4611686018427387904 ∧ (xs.map e).length * k.toNat ≤ SZ then some (Sl.ow (.list (List.replicate k.toNat (xs.map e)).flatten)) else none) = _
    rw [List.length_map, if_pos hc, rep_map]
    rfl
  · cases h
theorem g_repT {e : α → PyData} {xs ys : List α} {k : Int} {x : Sl} (hx : see r x = some (eT e xs)) (no : ∀ d, x ≠ .ow d) (h : repTS xs k = some ys) : repD r x k = some (.fr (eT e ys)) := by
  unfold repTS at h
  split at h
  · rename_i hc
    cases h
    have key : (match see r x with
        | some (.tuple xs) => if xs ≠ [] ∧ 1 ≤ k ∧ k ≤ 1000 ∧ xs.length ≤ 1000 then some (Sl.fr (.tuple (List.replicate k.toNat xs).flatten)) else none
        | _ => none) = some (.fr (eT e (List.replicate k.toNat xs).flatten)) := by
      rw [hx]
      show (if (xs.map e) ≠ [] ∧ 1 ≤ k ∧ k ≤ 1000 ∧ (xs.map e).length ≤ 1000 then some (Sl.fr (.tuple (List.replicate k.toNat (xs.map e)).flatten)) else none) = _
      rw [List.length_map, if_pos ⟨fun z => hc.1 (List.map_eq_nil_iff.mp z), hc.2⟩, rep_map]
      rfl
    cases x with
    | ow d => exact absurd rfl (no d)
    | _ => exact key
  · cases h
/-- no text within -/
def LayE (e : α → PyData) : Prop := ∀ a, (e a).canLay0 = true
theorem lay_int : LayE PyData.int := fun _ => rfl
theorem lay_bool : LayE PyData.bool := fun _ => rfl
theorem lay_all {e : α → PyData} (h : LayE e) : ∀ xs : List α, PyData.canLayAll0 (xs.map e) = true
  | [] => rfl
  | x :: xs => by
    show ((e x).canLay0 && PyData.canLayAll0 (xs.map e)) = true
    rw [h, lay_all h xs]; rfl
theorem lay_L {e : α → PyData} (h : LayE e) : LayE (eL e) := fun xs => lay_all h xs
theorem lay_T {e : α → PyData} (h : LayE e) : LayE (eT e) := fun xs => lay_all h xs
theorem lay_P2 {e1 : α → PyData} {e2 : β → PyData} (h1 : LayE e1) (h2 : LayE e2) : LayE (eP2 e1 e2) := fun p => by
  show ((e1 p.1).canLay0 && ((e2 p.2).canLay0 && true)) = true
  rw [h1, h2]; rfl
theorem lay_P3 {e1 : α → PyData} {e2 : β → PyData} {e3 : γ → PyData} (h1 : LayE e1) (h2 : LayE e2) (h3 : LayE e3) : LayE (eP3 e1 e2 e3) := fun p => by
  show ((e1 p.1).canLay0 && ((e2 p.2.1).canLay0 && ((e3 p.2.2).canLay0 && true))) = true
  rw [h1, h2, h3]; rfl
theorem x_me {m : Me} {a : Ex} {es : Exs} {x w : Sl} {ws : List Sl} {d : PyData} {ds xs0 : List PyData} (h1 : evE C a r = some (x, r1)) (h0 : see r1 x = some (.list xs0)) (h2 : evEs C es r1 = some (ws, r2)) (h3 : see r2 x = some d) (h4 : seeL r2 ws = some ds) (h5 : meD m d ds = some w) :
    evE C (.me m a es) r = some (w, r2) := by
  rw [e_me, h1]; simp only [h0, h2, h3, h4, h5]
def idxS [DecidableEq α] (xs : List α) (y : α) : Option Int := (xs.findIdx? fun x => decide (x = y)).map fun (j : Nat) => (j : Int)
theorem g_lidx [DecidableEq α] {e : α → PyData} {n : Nat} (h : EqE e n) (hn : n + 1 ≤ 64) (hl : LayE e) {xs : List α} {y : α} {j : Int} (hj : idxS xs y = some j) : meD .lidx (eL e xs) [e y] = some (.fr (.int j)) := by
  have ok1 := (eqe_L h).ok hn xs
  have ok2 := h.ok (by omega) y
  have e1 : (xs.map e).findIdx? (fun x => PyData.eqv x (e y)) = xs.findIdx? fun x => decide (x = y) := by
    rw [List.findIdx?_map]
    congr 1
    funext x
    exact h.eqv x y
  have la := lay_all hl xs
  have l2 := hl y
  unfold idxS at hj
  show (if (okD (eL e xs) && okD (e y)) && (PyData.canLayAll0 (xs.map e) && (e y).canLay0) then (match (xs.map e).findIdx? fun x => PyData.eqv x (e y) with | some j => some (Sl.fr (.int (j : Int))) | none => none) else none) = _
  rw [ok1, ok2, la, l2, e1]
  cases hf : xs.findIdx? fun x => decide (x = y) with
  | none => rw [hf] at hj; cases hj
  | some k => rw [hf] at hj; cases hj; rfl
def cntS [DecidableEq α] (xs : List α) (y : α) : Int := ((xs.countP fun x => decide (x = y) : Nat) : Int)
theorem g_lcnt [DecidableEq α] {e : α → PyData} {n : Nat} (h : EqE e n) (hn : n + 1 ≤ 64) (xs : List α) (y : α) : meD .lcnt (eL e xs) [e y] = some (.fr (.int (cntS xs y))) := by
  have ok1 := (eqe_L h).ok hn xs
  have ok2 := h.ok (by omega) y
  have e1 : (xs.map e).countP (fun x => PyData.eqv x (e y)) = xs.countP fun x => decide (x = y) := by
    rw [List.countP_map]
    congr 1
    funext x
    exact h.eqv x y
  show (if okD (eL e xs) && okD (e y) then some (Sl.fr (.int (((xs.map e).countP fun x => PyData.eqv x (e y) : Nat) : Int))) else none) = _
  rw [ok1, ok2, e1]
  rfl
/-- any data, walked, counted -/
def itS (d : PyData) : Option (List PyData) := itemsOf d
theorem map_eI (xs : List PyData) : xs.map eI = xs := by induction xs with | nil => rfl | cons x xs ih => rw [List.map_cons, ih]; rfl
theorem it_D {d : PyData} {xs : List PyData} (h : itS d = some xs) : itemsOf d = some (xs.map eI) := by rw [map_eI]; exact h
def lenD (d : PyData) : Option Int := match d with
  | .list xs => some (xs.length : Int)
  | .tuple xs => some (xs.length : Int)
  | _ => none
theorem f_lenD {d : PyData} {n : Int} (h : lenD d = some n) : btD .len [d] = some (.fr (.int n)) := by
  unfold lenD at h
  split at h <;> cases h <;> rfl
def ixD (d : PyData) (i : Int) : Option PyData := idxD d (.int i)
theorem g_ixD {d x : PyData} {i : Int} (h : ixD d i = some x) : idxA d (.int i) = some x := by
  unfold ixD at h
  cases d with
  | list xs => exact h
  | tuple xs => exact h
  | dict kvs => cases h
  | _ => cases h
theorem eT_D (e : α → PyData) (xs : List α) : eT eI (xs.map e) = eT e xs := by
  unfold eT
  rw [List.map_map]
  rfl
theorem eL_D (e : α → PyData) (xs : List α) : eL eI (xs.map e) = eL e xs := by
  unfold eL
  rw [List.map_map]
  rfl
/-- an int -/
def asI : PyData → Option Int
  | .int i => some i
  | _ => none
theorem asI_eq {d : PyData} {i : Int} (h : asI d = some i) : d = .int i := by
  cases d <;> first | (cases h; rfl) | cases h
def isNon : PyData → Bool
  | .none => true
  | _ => false
theorem c_isN (d : PyData) : cmpD .is d .none = some (isNon d) := by cases d <;> rfl
theorem c_isnotN (d : PyData) : cmpD .isnot d .none = some (!isNon d) := by cases d <;> rfl
/-- a slot that may be filled with a thing of one's own -/
def oO (e : α → PyData) : Option α → Sl
  | none => .no
  | some a => .ow (e a)
/-- == of any data -/
def eqS (d e : PyData) : Option Bool := if okD d && okD e then some (PyData.eqv d e) else none
theorem c_eqD {d e : PyData} {b : Bool} (h : eqS d e = some b) : cmpD .eq d e = some b := by
  unfold eqS at h
  rw [cmp_eq]; exact h
theorem c_neD {d e : PyData} {b : Bool} (h : eqS d e = some b) : cmpD .ne d e = some (!b) := by
  unfold eqS at h
  rw [cmp_ne]
  split at h
  · rw [if_pos (by assumption)]; cases h; rfl
  · cases h
def srtS (e : α → PyData) (xs : List α) : Option (List α) := if sortOk (xs.map e) = true then some (xs.mergeSort fun a b => dataLe false id (e a) (e b)) else none
theorem f_sorted {e : α → PyData} {xs ys : List α} (h : srtS e xs = some ys) : btD .sorted [eL e xs] = some (.ow (eL e ys)) := by
  unfold srtS at h
  split at h
  · rename_i hs
    cases h
    show (if sortOk (xs.map e) then some (Sl.ow (.list ((xs.map e).mergeSort (dataLe false id)))) else none) = _
    rw [if_pos hs, ← sort_maps e fun a _ b _ => rfl]
    rfl
  · cases h
def reprS (d : PyData) : Option Str := if reprOk d = true then some d.shown else none
/-- dict(l) of a list of pairs -/
def dctS (xs : List PyData) : Option PyData := (pairsD xs).map fun ps => .dict (dMerge [] ps)
theorem f_dct {e : α → PyData} {xs : List α} {d : PyData} (h : dctS (xs.map e) = some d) : btD .dct1 [eL e xs] = some (.ow d) := by
  unfold dctS at h
  cases hp : pairsD (xs.map e) with
  | none => rw [hp] at h; cases h
  | some ps =>
    rw [hp] at h
    cases h
    show (match pairsD (xs.map e) with
      | some ps => some (Sl.ow (.dict (dMerge [] ps)))
      | none => match pairsN (xs.map e) with
        | some ps => if ps.length ≤ SZ ∧ ps.isEmpty = false then some (.ow (.dict (dMergeN [] ps))) else none
        | none => none) = _
    rw [hp]
theorem f_repr {d : PyData} {s : Str} (h : reprS d = some s) : btD .repr [d] = some (.fr (.str s)) := by
  unfold reprS at h
  rw [bt_repr]
  split at h
  · rw [if_pos (by assumption)]; cases h; rfl
  · cases h
def strS (i : Int) : Option Str := if i.natAbs.log2 < 1920 then some (toString i) else none
theorem f_str {i : Int} {s : Str} (h : strS i = some s) : btD .str1 [.int i] = some (.fr (.str s)) := by
  unfold strS at h
  split at h
  · cases h
    show (if i.natAbs.log2 < 1920 then _ else _) = _
    rw [if_pos (by assumption)]
  · cases h
/-! dicts whose keys are tuples -/
structure NKe (e : α → PyData) (f : α → NestedKey) (n : Nat) : Prop where
  key : ∀ a, nkey (e a) = some (f a)
  inj : ∀ a b, f a = f b → a = b
  dep : ∀ a, (f a).depth ≤ n
theorem nke_int : NKe PyData.int NestedKey.num 0 := ⟨fun _ => rfl, fun _ _ h => by injection h, fun _ => Nat.le_refl _⟩
theorem nke_T {e : α → PyData} {f : α → NestedKey} {n : Nat} (h : NKe e f n) : NKe (eT e) (fun l => .tup (l.map f)) (n + 1) := by
  refine ⟨fun l => ?_, fun a b q => ?_, fun l => ?_⟩
  · have k : ∀ l : List α, nkeys (l.map e) = some (l.map f) := fun l => by
      induction l with
      | nil => rfl
      | cons x l ih =>
        rw [List.map_cons, List.map_cons]
        unfold nkeys
        rw [h.key, ih]
    show nkey (.tuple (l.map e)) = _
    unfold nkey
    rw [k]
  · injection q with q
    have g : ∀ a b : List α, a.map f = b.map f → a = b := fun a => by
      induction a with
      | nil => intro b z; cases b with | nil => rfl | cons y b => cases z
      | cons x a ih =>
        intro b z
        cases b with
        | nil => cases z
        | cons y b =>
          rw [List.map_cons, List.map_cons] at z
          injection z with z1 z2
          rw [h.inj _ _ z1, ih b z2]
    exact g a b q
  · have g : ∀ l : List α, NestedKey.depthAll (l.map f) ≤ n := fun l => by
      induction l with
      | nil => exact Nat.zero_le _
      | cons x l ih =>
        rw [List.map_cons]
        have := h.dep x
        show max (f x).depth (NestedKey.depthAll (l.map f)) ≤ n
        omega
    have := g l
    show NestedKey.depthAll (l.map f) + 1 ≤ n + 1
    omega
theorem nke_P2 {e1 : α → PyData} {f1 : α → NestedKey} {e2 : β → PyData} {f2 : β → NestedKey} {n : Nat} (h1 : NKe e1 f1 n) (h2 : NKe e2 f2 n) : NKe (eP2 e1 e2) (fun p => .tup [f1 p.1, f2 p.2]) (n + 1) := by
  refine ⟨fun p => ?_, fun a b q => ?_, fun p => ?_⟩
  · show nkey (.tuple [e1 p.1, e2 p.2]) = _
    simp [nkey, nkeys, h1.key, h2.key]
  · injection q with q
    injection q with q1 q2
    injection q2 with q2
    exact Prod.ext (h1.inj _ _ q1) (h2.inj _ _ q2)
  · have a := h1.dep p.1
    have b := h2.dep p.2
    show max (f1 p.1).depth (max (f2 p.2).depth 0) + 1 ≤ n + 1
    omega
structure KTop (e : α → PyData) (f : α → NestedKey) : Prop where
  top : ∀ a, topKey (e a) = some (f a)
  inj : ∀ a b, f a = f b → a = b
theorem kt_of {e : α → PyData} {f : α → NestedKey} {n : Nat} (h : NKe e f n) (hn : n ≤ 8) (ht : ∀ a, ∃ xs, e a = .tuple xs) : KTop e f := by
  refine ⟨fun a => ?_, h.inj⟩
  obtain ⟨xs, ex⟩ := ht a
  have k := h.key a
  have d := h.dep a
  rw [ex] at k ⊢
  unfold nkey at k
  unfold topKey
  cases e : nkeys xs with
  | none => rw [e] at k; cases k
  | some ks =>
    rw [e] at k
    have k := Option.some.inj k
    rw [← k] at d ⊢
    simp only [e]
    exact if_pos (Nat.le_trans d hn)
theorem kt_T {e : α → PyData} {f : α → NestedKey} {n : Nat} (h : NKe e f n) (hn : n + 1 ≤ 8) : KTop (eT e) (fun l => .tup (l.map f)) := kt_of (nke_T h) hn fun _ => ⟨_, rfl⟩
theorem kt_P2 {e1 : α → PyData} {f1 : α → NestedKey} {e2 : β → PyData} {f2 : β → NestedKey} {n : Nat} (h1 : NKe e1 f1 n) (h2 : NKe e2 f2 n) (hn : n + 1 ≤ 8) : KTop (eP2 e1 e2) (fun p => .tup [f1 p.1, f2 p.2]) := kt_of (nke_P2 h1 h2) hn fun _ => ⟨_, rfl⟩
def eD (e1 : α → PyData) (e2 : β → PyData) (kvs : List (α × β)) : PyData := .dict (kvs.map fun p => (e1 p.1, e2 p.2))
def dgS [DecidableEq α] (kvs : List (α × β)) (k : α) : Option β := (kvs.find? fun p => decide (p.1 = k)).map fun p => p.2
def dpS [DecidableEq α] (kvs : List (α × β)) (k : α) (d : β) : List (α × β) := if (dgS kvs k).isSome = true then kvs.map (fun p => if p.1 = k then (p.1, d) else p) else kvs ++ [(k, d)]
def dmS [DecidableEq α] (l : List (α × β)) : List (α × β) := l.foldl (fun acc p => dpS acc p.1 p.2) []
section
variable [DecidableEq α] {e1 : α → PyData} {f : α → NestedKey} {e2 : β → PyData}
theorem dg_n (h : KTop e1 f) (k : α) : ∀ kvs : List (α × β), dGetN (kvs.map fun p => (e1 p.1, e2 p.2)) (f k) = (dgS kvs k).map e2
  | [] => rfl
  | p :: kvs => by
    rw [List.map_cons]
    unfold dGetN dgS
    rw [h.top, List.find?_cons]
    by_cases z : p.1 = k
    · rw [if_pos (by rw [z]), decide_eq_true z]
      rfl
    · rw [if_neg (fun q => z (h.inj _ _ (Option.some.inj q))), decide_eq_false z]
      exact dg_n h k kvs
theorem dp_n (h : KTop e1 f) (kvs : List (α × β)) (k : α) (d : β) : dPutN (kvs.map fun p => (e1 p.1, e2 p.2)) (e1 k) (f k) (e2 d) = (dpS kvs k d).map fun p => (e1 p.1, e2 p.2) := by
  unfold dPutN dpS
  rw [dg_n h k kvs]
  cases c : dgS kvs k with
  | some x =>
    show List.map _ _ = List.map _ (List.map _ _)
    rw [List.map_map, List.map_map]
    refine List.map_congr_left fun p _ => ?_
    simp only [Function.comp, h.top]
    by_cases z : p.1 = k
    · rw [if_pos (by rw [z]), if_pos z]
    · rw [if_neg (fun q => z (h.inj _ _ (Option.some.inj q))), if_neg z]
  | none =>
    show _ ++ [_] = List.map _ (_ ++ [_])
    rw [List.map_append]
    rfl
theorem dm_n (h : KTop e1 f) : ∀ (l acc : List (α × β)), dMergeN (acc.map fun p => (e1 p.1, e2 p.2)) (l.map fun p => (e1 p.1, e2 p.2)) = (l.foldl (fun acc p => dpS acc p.1 p.2) acc).map fun p => (e1 p.1, e2 p.2)
  | [], acc => rfl
  | p :: l, acc => by
    rw [List.map_cons, List.foldl_cons]
    unfold dMergeN
    simp only [h.top]
    rw [dp_n h]
    exact dm_n h l _
theorem pr_n (h : KTop e1 f) : ∀ l : List (α × β), pairsN (l.map (eP2 e1 e2)) = some (l.map fun p => (e1 p.1, e2 p.2))
  | [] => rfl
  | p :: l => by
    rw [List.map_cons, List.map_cons]
    show pairsN (.tuple [e1 p.1, e2 p.2] :: l.map (eP2 e1 e2)) = _
    unfold pairsN
    rw [h.top]
    simp only [pr_n h l]
def dctNS (l : List (α × β)) : Option (List (α × β)) := if l ≠ [] ∧ l.length ≤ SZ then some (dmS l) else none
theorem f_dctN (h : KTop e1 f) {l d : List (α × β)} (hd : dctNS l = some d) : btD .dct1 [eL (eP2 e1 e2) l] = some (.ow (eD e1 e2 d)) := by
  unfold dctNS at hd
  split at hd
  · rename_i hz
    cases hd
    have n0 : pairsD (l.map (eP2 e1 e2)) = none := by
      cases l with
      | nil => exact absurd rfl hz.1
      | cons p l =>
        show pairsD (.tuple [e1 p.1, e2 p.2] :: l.map (eP2 e1 e2)) = none
        unfold pairsD
        rw [top_keyD (h.top p.1)]
    show (match pairsD (l.map (eP2 e1 e2)) with
      | some ps => some (Sl.ow (.dict (dMerge [] ps)))
      | none => match pairsN (l.map (eP2 e1 e2)) with
        | some ps => if ps.length ≤ SZ ∧ ps.isEmpty = false then some (.ow (.dict (dMergeN [] ps))) else none
        | none => none) = _
    rw [n0, pr_n h]
    simp only [List.length_map]
    rw [if_pos ⟨hz.2, by cases l with | nil => exact absurd rfl hz.1 | cons a l => rfl⟩]
    exact congrArg (fun z => some (Sl.ow (PyData.dict z))) (dm_n h l [])
  · cases hd
theorem x_dn2 (h : KTop e1 f) {a b : Ex} {k1 k2 : α} {c d : Cn} {v1 v2 : β} (h1 : evE C a r = some (.fr (e1 k1), r1)) (h2 : evE C b r1 = some (.fr (e1 k2), r2)) (hc : c.d = e2 v1) (hd : d.d = e2 v2) :
    evE C (.dn2 a b c d) r = some (.ow (eD e1 e2 (dmS [(k1, v1), (k2, v2)])), r2) := by
  rw [e_dn2, h1]
  simp only [h2, hc, hd]
  rw [if_pos ⟨by rw [h.top k1]; rfl, by rw [h.top k2]; rfl⟩]
  have := dm_n (e2 := e2) h [(k1, v1), (k2, v2)] []
  simp only [List.map_nil, List.map_cons] at this
  rw [this]
  rfl
def dzS (xs : List α) (ys : List β) : Option (List (α × β)) := if xs.zip ys ≠ [] ∧ (xs.zip ys).length ≤ SZ then some (dmS (xs.zip ys)) else none
theorem x_dz (h : KTop e1 f) {es : Exs} {ws : List Sl} {a b : PyData} {xs : List α} {ys : List β} {zs : List (α × β)} (h1 : evEs C es r = some (ws, r1)) (h2 : seeL r1 ws = some [a, b]) (h3 : itemsOf a = some (xs.map e1)) (h4 : itemsOf b = some (ys.map e2)) (hd : dzS xs ys = some zs) :
    evE C (.dz es) r = some (.ow (eD e1 e2 zs), r1) := by
  unfold dzS at hd
  split at hd
  · rename_i hz
    cases hd
    rw [e_dz, h1]
    simp only [h2, z_2 h3 h4, pr_n h]
    rw [if_pos ⟨rfl, by rw [List.length_map]; exact hz.2, by cases e : xs.zip ys with | nil => exact absurd e hz.1 | cons a l => rfl⟩]
    exact congrArg (fun z => some (Sl.ow (PyData.dict z), r1)) (dm_n h (xs.zip ys) [])
  · cases hd
theorem g_ixN (h : KTop e1 f) {kvs : List (α × β)} {k : α} {v : β} (hg : dgS kvs k = some v) : idxA (eD e1 e2 kvs) (e1 k) = some (e2 v) := by
  show (match keyD (e1 k) with
    | some q => dGet (kvs.map fun p : α × β => (e1 p.1, e2 p.2)) q
    | none => match topKey (e1 k) with
      | some q => dGetN (kvs.map fun p : α × β => (e1 p.1, e2 p.2)) q
      | none => none) = _
  rw [top_keyD (h.top k), h.top k]
  simp only
  rw [dg_n h k kvs, hg]
  rfl
def dinS (kvs : List (α × β)) (k : α) : Option Bool := match kvs with
  | [] => none
  | _ :: _ => some (dgS kvs k).isSome
theorem hd_n (h : KTop e1 f) (p : α × β) (kvs : List (α × β)) : headN ((p :: kvs).map fun p : α × β => (e1 p.1, e2 p.2)) = true := by
  show (topKey (e1 p.1)).isSome = true
  rw [h.top]
  rfl
theorem c_inN (h : KTop e1 f) {kvs : List (α × β)} {k : α} {b : Bool} (hb : dinS kvs k = some b) : cmpD .isin (e1 k) (eD e1 e2 kvs) = some b := by
  cases kvs with
  | nil => cases hb
  | cons p kvs =>
    cases hb
    show (match topKey (e1 k) with
      | some q => if headN ((p :: kvs).map fun p : α × β => (e1 p.1, e2 p.2)) = true then some (dGetN ((p :: kvs).map fun p : α × β => (e1 p.1, e2 p.2)) q).isSome else none
      | none => none) = _
    rw [h.top k]
    simp only
    rw [if_pos (hd_n h p kvs), dg_n h k]
    simp
theorem c_notinN (h : KTop e1 f) {kvs : List (α × β)} {k : α} {b : Bool} (hb : dinS kvs k = some b) : cmpD .notin (e1 k) (eD e1 e2 kvs) = some (!b) := by
  cases kvs with
  | nil => cases hb
  | cons p kvs =>
    cases hb
    show (match topKey (e1 k) with
      | some q => if headN ((p :: kvs).map fun p : α × β => (e1 p.1, e2 p.2)) = true then some (!(dGetN ((p :: kvs).map fun p : α × β => (e1 p.1, e2 p.2)) q).isSome) else none
      | none => none) = _
    rw [h.top k]
    simp only
    rw [if_pos (hd_n h p kvs), dg_n h k]
    simp
def itmS (kvs : List (α × β)) : Option (List (α × β)) := match kvs with
  | [] => none
  | _ :: _ => some kvs
theorem j_im (h : KTop e1 f) {e : Ex} {w : Sl} {kvs l : List (α × β)} {hs : List Nat} (h1 : evE C e r = some (w, r1)) (h2 : see r1 w = some (eD e1 e2 kvs)) (h3 : itmS kvs = some l) (h4 : ownLk r1 [w] = hs) : evI C (.im e) r = some (l.map (eP2 e1 e2), hs, r1) := by
  cases kvs with
  | nil => cases h3
  | cons p kvs =>
    cases h3
    rw [i_im, h1]
    simp only [h2, eD]
    rw [if_pos (hd_n h p kvs), List.map_map, h4]
    rfl
def kysS (kvs : List (α × β)) : Option (List α) := match kvs with
  | [] => none
  | _ :: _ => some (kvs.map fun p => p.1)
theorem j_ky (h : KTop e1 f) {e : Ex} {w : Sl} {kvs : List (α × β)} {l : List α} {hs : List Nat} (h1 : evE C e r = some (w, r1)) (h2 : see r1 w = some (eD e1 e2 kvs)) (h3 : kysS kvs = some l) (h4 : ownLk r1 [w] = hs) : evI C (.ky e) r = some (l.map e1, hs, r1) := by
  cases kvs with
  | nil => cases h3
  | cons p kvs =>
    cases h3
    rw [i_ky, h1]
    simp only [h2, eD]
    rw [if_pos (hd_n h p kvs), List.map_map, List.map_map, h4]
    rfl
/-- d[k] = v -/
def dputS (kvs : List (α × β)) (k : α) (d : β) : Option (List (α × β)) := if kvs.length < SZ then some (dpS kvs k d) else none
theorem p_setN (h : KTop e1 f) {kvs zs : List (α × β)} {k : α} {d : β} (hp : dputS kvs k d = some zs) : putD (eD e1 e2 kvs) (e1 k) (e2 d) = some (eD e1 e2 zs) := by
  unfold dputS at hp
  split at hp
  · rename_i hz
    cases hp
    show putD (.dict (kvs.map fun p : α × β => (e1 p.1, e2 p.2))) (e1 k) (e2 d) = _
    have c2 : ((kvs.map fun p : α × β => (e1 p.1, e2 p.2)).isEmpty || headN (kvs.map fun p : α × β => (e1 p.1, e2 p.2))) = true := by
      cases kvs with
      | nil => rfl
      | cons p kvs => rw [hd_n h p kvs]; simp
    rw [pd_d, top_keyD (h.top k), h.top k]
    simp only [List.length_map]
    rw [if_pos ⟨hz, c2⟩, dp_n h]
    rfl
  · cases hp
theorem f_lenN {kvs : List (α × β)} : btD .len [eD e1 e2 kvs] = some (.fr (.int (kvs.length : Int))) := by
  show some (Sl.fr (.int ((kvs.map fun p : α × β => (e1 p.1, e2 p.2)).length : Int))) = _
  rw [List.length_map]
end
section
variable {e2 : β → PyData}
/-! .. whose keys are ints -/
theorem inl_ne {p k : Int} (e : ¬ p = k) : ¬ keyD (PyData.int p) = some (Sum.inl k) := fun z => by
  have z : (some (Sum.inl p) : Option (Sum Int Str)) = some (Sum.inl k) := z
  injection z with z
  injection z with z
  exact e z
theorem dg_i (k : Int) : ∀ kvs : List (Int × β), dGet (kvs.map fun p => (PyData.int p.1, e2 p.2)) (.inl k) = (dgS kvs k).map e2
  | [] => rfl
  | p :: kvs => by
    have ih := dg_i k kvs
    unfold dgS at ih ⊢
    rw [List.map_cons, dg_cons, List.find?_cons]
    by_cases e : p.1 = k
    · rw [if_pos (by show some (Sum.inl p.1) = some (Sum.inl k); rw [e]), decide_eq_true e]
      rfl
    · rw [if_neg (show ¬ keyD (PyData.int p.1, e2 p.2).1 = some (Sum.inl k) from inl_ne e), decide_eq_false e]
      exact ih
theorem g_ixI {kvs : List (Int × β)} {k : Int} {v : β} (hg : dgS kvs k = some v) : idxA (eD PyData.int e2 kvs) (.int k) = some (e2 v) := by
  show dGet (kvs.map fun p : Int × β => (PyData.int p.1, e2 p.2)) (.inl k) = _
  rw [dg_i, hg]
  rfl
theorem any_i (k : Int) : ∀ kvs : List (Int × β), ((kvs.map fun p => (PyData.int p.1, e2 p.2)).any fun kv => decide (keyD kv.1 = some (Sum.inl k))) = (dgS kvs k).isSome
  | [] => rfl
  | p :: kvs => by
    have ih := any_i k kvs
    unfold dgS at ih ⊢
    rw [List.map_cons, List.any_cons, List.find?_cons, ih]
    by_cases e : p.1 = k
    · rw [decide_eq_true e, decide_eq_true (by show some (Sum.inl p.1) = some (Sum.inl k); rw [e])]
      rfl
    · rw [decide_eq_false e, decide_eq_false (show ¬ keyD (PyData.int p.1, e2 p.2).1 = some (Sum.inl k) from inl_ne e), Bool.false_or]
theorem p_setI {kvs zs : List (Int × β)} {k : Int} {d : β} (hp : dputS kvs k d = some zs) : putD (eD PyData.int e2 kvs) (.int k) (e2 d) = some (eD PyData.int e2 zs) := by
  unfold dputS at hp
  split at hp
  · rename_i hz
    cases hp
    show putD (.dict (kvs.map fun p : Int × β => (PyData.int p.1, e2 p.2))) (.int k) (e2 d) = _
    have c2 : headN (kvs.map fun p : Int × β => (PyData.int p.1, e2 p.2)) = false := by
      cases kvs with
      | nil => rfl
      | cons p kvs => rfl
    rw [pd_d]
    show (if (kvs.map fun p : Int × β => (PyData.int p.1, e2 p.2)).length < SZ ∧ _ then some (PyData.dict (dPut _ _ (.inl k) _)) else none) = _
    rw [if_pos ⟨by rw [List.length_map]; exact hz, c2⟩]
    unfold dPut dpS eD
    rw [any_i]
    by_cases c : (dgS kvs k).isSome = true
    · rw [if_pos c, if_pos c, List.map_map, List.map_map]
      refine congrArg (fun l => some (PyData.dict l)) (List.map_congr_left fun p _ => ?_)
      simp only [Function.comp]
      by_cases e : p.1 = k
      · rw [if_pos (by show some (Sum.inl p.1) = some (Sum.inl k); rw [e]), if_pos e]
      · rw [if_neg (inl_ne e), if_neg e]
    · rw [if_neg c, if_neg c, List.map_append]
      rfl
  · cases hp
end
theorem x_dkI {e2 : β → PyData} {k e : Ex} {i : Int} {w : Sl} {v : β} (h1 : evE C k r = some (.fr (.int i), r1)) (h2 : evE C e r1 = some (w, r2)) (h3 : fz w = some (e2 v)) : evE C (.dk k e) r = some (.ow (eD PyData.int e2 [(i, v)]), r2) := by
  rw [e_dk, h1]
  simp only [h2, h3]
  rfl
theorem x_dct0 {e1 : α → PyData} {e2 : β → PyData} : evE C (.dct [] .nil) r = some (.ow (eD e1 e2 []), r) := rfl
theorem eqe_U : EqE eU 1 := ⟨fun x y => by simp [eU, PyData.eqv], fun _ => rfl, fun _ => by simp [eU, PyData.depth]⟩
end
end Bx

set_option Elab.async false
set_option linter.all false
set_option maxRecDepth 100000
set_option autoImplicit false
/-! more of what raises -/
namespace Bx
open PySem
section
variable {C : Call} {r r1 r2 : Bx.Env} {α β : Type}
theorem kx_if {e : Ex} {a q : Ss} {c : Str} {t : Bool} (h1 : evE C e r = some (.fr (.bool t), r1)) (hT : t = true → Kx C a r1 c) (hF : t = false → Kx C q r1 c) : Kx C (.cons (.iff e a .nil) q) r c := by
  cases t with
  | true => exact kx_ifT h1 (hT rfl)
  | false => exact kx_st (r1 := r1) (by rw [s_iff, h1]; rfl) (hF rfl)
theorem kx_ife {e : Ex} {a b q : Ss} {c : Str} {t : Bool} (h1 : evE C e r = some (.fr (.bool t), r1)) (hT : t = true → Kx C a r1 c) (hF : t = false → Kx C b r1 c) : Kx C (.cons (.iff e a b) q) r c := by
  cases t with
  | true => exact kx_ifT h1 (hT rfl)
  | false => exact kx_ifF h1 (hF rfl)
theorem kx_env {b : Ss} {c : Str} (e : r = r2) (h : Kx C b r2 c) : Kx C b r c := by subst e; exact h
/-- the block raises c, the slots behind told -/
def Kz (C : Call) (b : Ss) (r : Bx.Env) (c : Str) (r' : Bx.Env) : Prop := evB C b r = none ∧ xB C b r = some (c, r')
theorem kz_s {s : S} {q : Ss} {c : Str} {r' : Bx.Env} (h1 : evS C s r = none) (h2 : xS C s r = some (c, r')) : Kz C (.cons s q) r c r' := by
  refine ⟨by rw [b_cons, h1], ?_⟩
  simp only [xB, h1]
  exact h2
theorem kz_ife {e : Ex} {a b q : Ss} {c : Str} {t : Bool} {r' : Bx.Env} (h1 : evE C e r = some (.fr (.bool t), r1)) (hT : t = true → Kz C a r1 c r') (hF : t = false → Kz C b r1 c r') : Kz C (.cons (.iff e a b) q) r c r' := by
  cases t with
  | true => exact kz_s (by rw [s_iff, h1]; exact (hT rfl).1) (by simp only [xS, h1]; exact (hT rfl).2)
  | false => exact kz_s (by rw [s_iff, h1]; exact (hF rfl).1) (by simp only [xS, h1]; exact (hF rfl).2)
theorem kz_ex {e : Ex} {q : Ss} {c : Str} {r' : Bx.Env} (h : Ke C e r c r') : Kz C (.cons (.ex e) q) r c r' := kz_s (by simp only [evS, h.1]) (by simp only [xS]; exact h.2)
theorem kz_as {t : Tg} {e : Ex} {q : Ss} {c : Str} {r' : Bx.Env} (h : Ke C e r c r') : Kz C (.cons (.as t e) q) r c r' := kz_s (by simp only [evS, h.1]) (by simp only [xS]; exact h.2)
theorem ke_call0 {f : Nat} {es : Exs} {ws as fs : List Sl} {c : Str} (h1 : evEs C es r = some (ws, r1)) (h2 : argsOf r1 ws = some as) (h3 : lents ws = []) (h4 : C f as = some (.rz c, fs)) : Ke C (.call f es) r c r1 := by
  have := ke_call (c := c) (fs := fs) h1 h2 (by rw [h3]; simp [nodupB]) h4
  rw [gb_none _ _ _ h3] at this
  exact this
/-- a try whose body raises -/
theorem k_txB {i j : Nat} {hs : List Str} {b q : Ss} {bs : List Ss} {Φ : Rs → Prop} {c : Str} {r' : Bx.Env} (h : Kz C b r c r') (hc : hs.contains c = true) (hi : i < r'.length) (hij : i ≠ j) (e : (r'.set j .no).set i (.ex c) = r2) (h2 : Kw C (q :: bs) r2 Φ) :
    Kw C (.cons (.tx i j hs b) q :: bs) r Φ := by
  subst e
  obtain ⟨R, a, b'⟩ := h2
  refine ⟨R, ?_, b'⟩
  have e3 : evS C (.tx i j hs b) r = some (.nx ((r'.set j .no).set i (.ex c))) := by
    unfold evS
    rw [h.1]
    simp only [h.2]
    rw [if_pos ⟨hc, hi, hij⟩]
  unfold evK at a ⊢
  rw [b_cons, e3]
  exact a
theorem x_isxB {i : Nat} {al ts : List Str} {c : Str} {b : Bool} (h : r[i]? = some (.ex c)) (hc : al.contains c = true) (hb : ts.contains c = b) : evE C (.isx i al ts) r = some (.fr (.bool b), r) := by
  rw [← hb]; exact x_isx h hc
theorem runX_okV {f : Fn} {ws : List Sl} {c : Str} (h1 : ws.length = f.np) (h2 : lentOk f.asg 0 ws = true) (h : Kx C f.body (ws ++ List.replicate (f.ns - f.np) .no) c) : runFn C f ws = some (.rz c, []) := runX_ok h1 h2 h
/-! ### sorted(set(x)), sum(x, []), min and max of data -/
theorem intsOf_map : ∀ ns : List Int, intsOf (ns.map PyData.int) = some ns
  | [] => rfl
  | n :: ns => by
    rw [List.map_cons]
    unfold intsOf
    rw [intsOf_map ns]
def ssS (ns : List Int) : Option (List Int) := if ns.length < 4000 then some (ssL ns) else none
theorem x_ss {a : Ex} {w : Sl} {d : PyData} {ns ms : List Int} (h1 : evE C a r = some (w, r1)) (h2 : see r1 w = some d) (h3 : itemsOf d = some (ns.map PyData.int)) (h : ssS ns = some ms) : evE C (.ss a) r = some (.ow (eL PyData.int ms), r1) := by
  unfold ssS at h
  split at h
  · rename_i hz
    cases h
    rw [e_ss, h1]
    simp only [h2, h3, intsOf_map]
    rw [if_pos hz]
    rfl
  · cases h
def s2S (xs : List (List α)) : Option (List α) := if xs.flatten.length ≤ SZ then some xs.flatten else none
theorem listsOf_map {e : α → PyData} : ∀ xs : List (List α), listsOf (xs.map (eL e)) = some (xs.map fun x => x.map e)
  | [] => rfl
  | x :: xs => by
    rw [List.map_cons]
    show (match listsOf (xs.map (eL e)) with | some l => some (x.map e :: l) | none => none) = _
    rw [listsOf_map xs]
    rfl
theorem x_s2 {a : Ex} {w : Sl} {e : α → PyData} {xs : List (List α)} {ys : List α} (h1 : evE C a r = some (w, r1)) (h2 : see r1 w = some (eL (eL e) xs)) (h : s2S xs = some ys) : evE C (.s2 a) r = some (.ow (eL e ys), r1) := by
  unfold s2S at h
  split at h
  · rename_i hz
    cases h
    have e1 : (xs.map fun x => x.map e).flatten = xs.flatten.map e := by rw [List.map_flatten]
    rw [e_s2, h1]
    simp only [h2]
    show (match listsOf (xs.map (eL e)) with | some ls => _ | none => _) = _
    rw [listsOf_map]
    simp only [e1, List.length_map]
    rw [if_pos hz]
    rfl
  · cases h
theorem nI_T {e : α → PyData} (a : List α) (i : Int) : eT e a ≠ PyData.int i := fun h => by unfold eT at h; cases h
theorem nI_P2 {γ : Type} {e1 : α → PyData} {e2 : γ → PyData} (a : α × γ) (i : Int) : eP2 e1 e2 a ≠ PyData.int i := fun h => by unfold eP2 at h; cases h
theorem nI_P3 {γ δ : Type} {e1 : α → PyData} {e2 : γ → PyData} {e3 : δ → PyData} (a : α × γ × δ) (i : Int) : eP3 e1 e2 e3 a ≠ PyData.int i := fun h => by unfold eP3 at h; cases h
def minB (e : α → PyData) (xs : List α) : Option α := if sortOk (xs.map e) = true then (match xs with | x :: l => some (l.foldl (fun a y => if PySem.W.dataLt (e y) (e a) then y else a) x) | [] => none) else none
def maxB (e : α → PyData) (xs : List α) : Option α := if sortOk (xs.map e) = true then (match xs with | x :: l => some (l.foldl (fun a y => if PySem.W.dataLt (e a) (e y) then y else a) x) | [] => none) else none
theorem minD_map (e : α → PyData) : ∀ (l : List α) (x : α), PySem.W.minD (e x) (l.map e) = e (l.foldl (fun a y => if PySem.W.dataLt (e y) (e a) then y else a) x)
  | [], x => rfl
  | y :: l, x => by
    have := minD_map e l (if PySem.W.dataLt (e y) (e x) then y else x)
    unfold PySem.W.minD at this ⊢
    rw [List.map_cons, List.foldl_cons, List.foldl_cons, ← this]
    congr 1
    split <;> rfl
theorem maxD_map (e : α → PyData) : ∀ (l : List α) (x : α), PySem.W.maxD (e x) (l.map e) = e (l.foldl (fun a y => if PySem.W.dataLt (e a) (e y) then y else a) x)
  | [], x => rfl
  | y :: l, x => by
    have := maxD_map e l (if PySem.W.dataLt (e x) (e y) then y else x)
    unfold PySem.W.maxD at this ⊢
    rw [List.map_cons, List.foldl_cons, List.foldl_cons, ← this]
    congr 1
    split <;> rfl
theorem intsOf_not {e : α → PyData} (he : ∀ a i, e a ≠ PyData.int i) (x : α) (l : List α) : intsOf ((x :: l).map e) = none := by
  rw [List.map_cons]
  cases c : e x with
  | int i => exact absurd c (he x i)
  | _ => rfl
theorem f_minB {e : α → PyData} (he : ∀ a i, e a ≠ PyData.int i) {xs : List α} {y : α} (h : minB e xs = some y) : btD .min1 [eL e xs] = some (.fr (e y)) := by
  unfold minB at h
  split at h
  · rename_i hs
    cases xs with
    | nil => cases h
    | cons x l =>
      cases h
      show (match intsOf ((x :: l).map e) with
        | some (n :: ns) => some (Sl.fr (.int (ns.foldl min n)))
        | some [] => none
        | none => leastD ((x :: l).map e)) = _
      rw [intsOf_not he]
      unfold leastD
      rw [if_pos hs]
      exact congrArg (fun z => some (Sl.fr z)) (minD_map e l x)
  · cases h
theorem f_maxB {e : α → PyData} (he : ∀ a i, e a ≠ PyData.int i) {xs : List α} {y : α} (h : maxB e xs = some y) : btD .max1 [eL e xs] = some (.fr (e y)) := by
  unfold maxB at h
  split at h
  · rename_i hs
    cases xs with
    | nil => cases h
    | cons x l =>
      cases h
      show (match intsOf ((x :: l).map e) with
        | some (n :: ns) => some (Sl.fr (.int (ns.foldl max n)))
        | some [] => none
        | none => mostD ((x :: l).map e)) = _
      rw [intsOf_not he]
      unfold mostD
      rw [if_pos hs]
      exact congrArg (fun z => some (Sl.fr z)) (maxD_map e l x)
  · cases h
/-- tuple(x) of anything -/
def tupD : PyData → Option PyData
  | .list xs => some (.tuple xs)
  | .tuple xs => some (.tuple xs)
  | _ => none
theorem f_tupD {d y : PyData} (h : tupD d = some y) : btD .tuple1 [eI d] = some (.fr (eI y)) := by
  cases d <;> first | (cases h; rfl) | cases h
theorem f_lstD {d : PyData} {xs : List PyData} (h : itS d = some xs) : btD .list1 [eI d] = some (.ow (eL eI xs)) := by
  have e : xs.map eI = xs := List.map_id xs
  cases d <;> first | (cases h; show some (Sl.ow (.list _)) = some (Sl.ow (.list (List.map eI _))); rw [e]) | cases h
/-! ### dict(pairs) whose keys are ints -/
section
variable {e2 : β → PyData}
theorem pairsD_i : ∀ l : List (Int × β), pairsD (l.map (eP2 PyData.int e2)) = some (l.map fun p => (PyData.int p.1, e2 p.2))
  | [] => rfl
  | p :: l => by
    rw [List.map_cons, List.map_cons]
    show pairsD (.tuple [PyData.int p.1, e2 p.2] :: l.map (eP2 PyData.int e2)) = _
    unfold pairsD
    simp only [Bx.keyD, pairsD_i l]
theorem dp_i (kvs : List (Int × β)) (k : Int) (d : β) : dPut (kvs.map fun p => (PyData.int p.1, e2 p.2)) (.int k) (.inl k) (e2 d) = (dpS kvs k d).map fun p => (PyData.int p.1, e2 p.2) := by
  unfold dPut dpS
  rw [any_i]
  by_cases c : (dgS kvs k).isSome = true
  · rw [if_pos c, if_pos c, List.map_map, List.map_map]
    refine List.map_congr_left fun p _ => ?_
    simp only [Function.comp]
    by_cases e : p.1 = k
    · rw [if_pos (by show some (Sum.inl p.1) = some (Sum.inl k); rw [e]), if_pos e]
    · rw [if_neg (inl_ne e), if_neg e]
  · rw [if_neg c, if_neg c, List.map_append]
    rfl
theorem dm_i : ∀ (l acc : List (Int × β)), dMerge (acc.map fun p => (PyData.int p.1, e2 p.2)) (l.map fun p => (PyData.int p.1, e2 p.2)) = (l.foldl (fun acc p => dpS acc p.1 p.2) acc).map fun p => (PyData.int p.1, e2 p.2)
  | [], acc => rfl
  | p :: l, acc => by
    rw [List.map_cons, List.foldl_cons]
    unfold dMerge
    simp only [Bx.keyD]
    rw [dp_i]
    exact dm_i l _
theorem f_dctI (l : List (Int × β)) : btD .dct1 [eL (eP2 PyData.int e2) l] = some (.ow (eD PyData.int e2 (dmS l))) := by
  show (match pairsD (l.map (eP2 PyData.int e2)) with
    | some ps => some (Sl.ow (.dict (dMerge [] ps)))
    | none => _) = _
  rw [pairsD_i]
  exact congrArg (fun z => some (Sl.ow (PyData.dict z))) (dm_i l [])
end
end
end Bx

set_option Elab.async false
set_option linter.all false
set_option maxRecDepth 100000
set_option autoImplicit false
set_option maxHeartbeats 4000000
/-! Places between two corners: plain law. -/
namespace Bx
open PySem PySem.Spec PySem.W
/-- the ints a, .., b -/
def rng (a b : Int) : List Int := (List.range (b + 1 - a).toNat).map fun i => a + ((i : Nat) : Int)
theorem rng_len (a b : Int) : (rng a b).length = (b + 1 - a).toNat := by unfold rng; simp
theorem rng_mem (a b x : Int) : x ∈ rng a b ↔ a ≤ x ∧ x ≤ b := by
  unfold rng
  simp only [List.mem_map, List.mem_range]
  constructor
  · rintro ⟨i, h, rfl⟩
    omega
  · rintro ⟨h1, h2⟩
    exact ⟨(x - a).toNat, by omega, by omega⟩
theorem rng_lt (a b : Int) : (rng a b).Pairwise (· < ·) := by
  unfold rng
  rw [List.pairwise_map]
  exact List.Pairwise.imp (fun h => by omega) List.pairwise_lt_range
def grow (acc : List (List Int)) (a b : Int) : List (List Int) := acc.flatMap fun p => (rng a b).map fun o => p ++ [o]
def growL (acc : List (List Int)) (a b : Int) : List (List Int) := (rng a b).flatMap fun o => acc.map fun p => p ++ [o]
def boxP (lh : List (Int × Int)) : List (List Int) := lh.foldl (fun acc p => grow acc p.1 p.2) [[]]
def boxL (lh : List (Int × Int)) : List (List Int) := lh.foldl (fun acc p => growL acc p.1 p.2) [[]]
theorem grow_len (acc : List (List Int)) (a b : Int) : (grow acc a b).length = acc.length * (b + 1 - a).toNat := by
  unfold grow
  induction acc with
  | nil => simp
  | cons p acc ih => simp only [List.flatMap_cons, List.length_append, List.length_map, rng_len, List.length_cons, ih, Nat.succ_mul]; omega
theorem flat_swap {α β γ : Type} (f : α → β → γ) (l : List α) : ∀ m : List β, (l.flatMap fun x => m.map (f x)).Perm (m.flatMap fun y => l.map fun x => f x y)
  | [] => by simp
  | y :: m => by
    have ih := flat_swap f l m
    rw [List.flatMap_cons]
    refine List.Perm.trans ?_ (List.Perm.append_left _ ih)
    clear ih
    induction l with
    | nil => simp
    | cons x l ih =>
      simp only [List.flatMap_cons, List.map_cons, List.cons_append]
      refine List.Perm.cons _ ?_
      refine (List.Perm.append_left _ ih).trans ?_
      rw [← List.append_assoc, ← List.append_assoc]
      exact List.Perm.append_right _ List.perm_append_comm
theorem grow_perm (acc acc' : List (List Int)) (h : acc.Perm acc') (a b : Int) : (grow acc a b).Perm (growL acc' a b) := by
  refine (List.Perm.trans ?_ (flat_swap (fun p o => p ++ [o]) acc' (rng a b)))
  unfold grow
  exact List.Perm.flatMap_right _ h
theorem fold_perm (lh : List (Int × Int)) : ∀ acc acc' : List (List Int), acc.Perm acc' → (lh.foldl (fun acc p => grow acc p.1 p.2) acc).Perm (lh.foldl (fun acc p => growL acc p.1 p.2) acc') := by
  induction lh with
  | nil => exact fun _ _ h => h
  | cons p lh ih => exact fun _ _ h => ih _ _ (grow_perm _ _ h _ _)
theorem box_perm (lh : List (Int × Int)) : (boxP lh).Perm (boxL lh) := fold_perm lh _ _ (List.Perm.refl _)
/-- p before q, of one length -/
def Bef (k : Nat) (p q : List Int) : Prop := p.length = k ∧ q.length = k ∧ listLt p q = true
theorem listLt_app : ∀ p q s t : List Int, p.length = q.length → listLt p q = true → listLt (p ++ s) (q ++ t) = true
  | [], [], _, _, _, h => by simp [listLt] at h
  | [], _ :: _, _, _, h, _ => by simp at h
  | _ :: _, [], _, _, h, _ => by simp at h
  | x :: p, y :: q, s, t, hl, h => by
    simp only [List.cons_append]
    unfold listLt at h ⊢
    by_cases e : x = y
    · rw [if_pos e] at h ⊢
      exact listLt_app p q s t (by simpa using hl) h
    · rw [if_neg e] at h ⊢
      exact h
theorem listLt_same : ∀ (p : List Int) (s t : List Int), listLt (p ++ s) (p ++ t) = listLt s t
  | [], _, _ => rfl
  | x :: p, s, t => by
    simp only [List.cons_append]
    rw [listLt.eq_def]
    simp only [if_true]
    exact listLt_same p s t
theorem listLt_one (a b : Int) : listLt [a] [b] = decide (a < b) := by
  unfold listLt
  by_cases e : a = b
  · rw [if_pos e]
    subst e
    simp [listLt]
  · rw [if_neg e]
    rfl
theorem grow_bef {k : Nat} {acc : List (List Int)} (hl : ∀ p ∈ acc, p.length = k) (hp : acc.Pairwise (fun p q => listLt p q = true)) (a b : Int) : (∀ p ∈ grow acc a b, p.length = k + 1) ∧ (grow acc a b).Pairwise (fun p q => listLt p q = true) := by
  refine ⟨fun p hm => ?_, ?_⟩
  · unfold grow at hm
    simp only [List.mem_flatMap, List.mem_map] at hm
    obtain ⟨q, hq, o, _, rfl⟩ := hm
    simp [hl q hq]
  · unfold grow
    induction acc with
    | nil => simp
    | cons p acc ih =>
      rw [List.flatMap_cons, List.pairwise_append]
      have hp' := List.pairwise_cons.mp hp
      refine ⟨?_, ih (fun q hq => hl q (List.mem_cons_of_mem _ hq)) hp'.2, ?_⟩
      · rw [List.pairwise_map]
        refine List.Pairwise.imp (fun {x y} h => ?_) (rng_lt a b)
        rw [listLt_same, listLt_one]
        exact decide_eq_true h
      · intro x hx y hy
        simp only [List.mem_flatMap, List.mem_map] at hx hy
        obtain ⟨o, _, rfl⟩ := hx
        obtain ⟨q, hq, o', _, rfl⟩ := hy
        exact listLt_app p q _ _ (by rw [hl p List.mem_cons_self, hl q (List.mem_cons_of_mem _ hq)]) (hp'.1 q hq)
theorem fold_bef (lh : List (Int × Int)) : ∀ (k : Nat) (acc : List (List Int)), (∀ p ∈ acc, p.length = k) → acc.Pairwise (fun p q => listLt p q = true) → (∀ p ∈ lh.foldl (fun acc p => grow acc p.1 p.2) acc, p.length = k + lh.length) ∧ (lh.foldl (fun acc p => grow acc p.1 p.2) acc).Pairwise (fun p q => listLt p q = true) := by
  induction lh with
  | nil => exact fun _ _ h1 h2 => ⟨h1, h2⟩
  | cons p lh ih =>
    intro k acc h1 h2
    obtain ⟨g1, g2⟩ := grow_bef h1 h2 p.1 p.2
    obtain ⟨r1, r2⟩ := ih (k + 1) _ g1 g2
    exact ⟨fun q hq => by have := r1 q hq; rw [List.length_cons]; omega, r2⟩
theorem box_bef (lh : List (Int × Int)) : (∀ p ∈ boxP lh, p.length = lh.length) ∧ (boxP lh).Pairwise (fun p q => listLt p q = true) := by
  have := fold_bef lh 0 [[]] (by simp) (by simp)
  unfold boxP
  simpa using this
/-- a place lies between -/
def btw : List (Int × Int) → List Int → Prop
  | [], [] => True
  | l :: lh, x :: s => (l.1 ≤ x ∧ x ≤ l.2) ∧ btw lh s
  | _, _ => False
theorem fold_mem (lh : List (Int × Int)) : ∀ (acc : List (List Int)) (p : List Int), p ∈ lh.foldl (fun acc p => grow acc p.1 p.2) acc ↔ ∃ q s, q ∈ acc ∧ p = q ++ s ∧ btw lh s := by
  induction lh with
  | nil =>
    intro acc p
    constructor
    · exact fun h => ⟨p, [], h, by simp, trivial⟩
    · rintro ⟨q, s, h1, rfl, h2⟩
      cases s with
      | nil => simpa using h1
      | cons x s => exact h2.elim
  | cons l lh ih =>
    intro acc p
    rw [List.foldl_cons, ih]
    constructor
    · rintro ⟨q, s, hq, rfl, hs⟩
      unfold grow at hq
      simp only [List.mem_flatMap, List.mem_map] at hq
      obtain ⟨q, hq, o, ho, rfl⟩ := hq
      exact ⟨q, o :: s, hq, by simp, (rng_mem _ _ _).mp ho, hs⟩
    · rintro ⟨q, s, hq, rfl, hs⟩
      cases s with
      | nil => exact hs.elim
      | cons x s =>
        refine ⟨q ++ [x], s, ?_, by simp, hs.2⟩
        unfold grow
        simp only [List.mem_flatMap, List.mem_map]
        exact ⟨q, hq, x, (rng_mem _ _ _).mpr hs.1, rfl⟩
theorem box_mem (lh : List (Int × Int)) (p : List Int) : p ∈ boxP lh ↔ btw lh p := by
  unfold boxP
  rw [fold_mem]
  simp
end Bx
namespace Bx
open PySem PySem.Spec PySem.W
/-- a place as data -/
def tp (p : List Int) : PyData := .tuple (p.map .int)
def vol (lh : List (Int × Int)) : Nat := (lh.map fun l => (l.2 + 1 - l.1).toNat).foldr (· * ·) 1
/-- a field of lists of places that stays small -/
def fits (lh : List (Int × Int)) : Prop := (∀ l ∈ lh, -1152921504606846976 ≤ l.1 ∧ l.1 ≤ l.2 ∧ l.2 ≤ 1152921504606846976) ∧ vol lh ≤ 1000000 ∧ lh.length ≤ 1000
theorem fits_nil : fits [] := ⟨by simp, by decide, by simp⟩
theorem vol_pos {lh : List (Int × Int)} (h : ∀ l ∈ lh, l.1 ≤ l.2) : 1 ≤ vol lh := by
  induction lh with
  | nil => exact Nat.le_refl _
  | cons l lh ih =>
    have h1 := h l List.mem_cons_self
    have h2 := ih fun x hx => h x (List.mem_cons_of_mem _ hx)
    show 1 ≤ (l.2 + 1 - l.1).toNat * vol lh
    exact Nat.mul_pos (by omega) h2
/-- what holds at each turn: the list so far times what is still to come -/
def Step (lh : List (Int × Int)) (k n : Nat) : Prop := (∀ l ∈ lh, -1152921504606846976 ≤ l.1 ∧ l.1 ≤ l.2 ∧ l.2 ≤ 1152921504606846976) ∧ n * vol lh ≤ 1000000 ∧ k + lh.length ≤ 1000
theorem Step.head {l : Int × Int} {lh : List (Int × Int)} {k n : Nat} (h : Step (l :: lh) k n) : (-1152921504606846976 ≤ l.1 ∧ l.1 ≤ l.2 ∧ l.2 ≤ 1152921504606846976) ∧ n * (l.2 + 1 - l.1).toNat ≤ 1000000 ∧ n ≤ 1000000 ∧ (l.2 + 1 - l.1).toNat ≤ 1000000 ∨ n = 0 := by
  obtain ⟨h1, h2, h3⟩ := h
  have hv := vol_pos (lh := lh) fun x hx => (h1 x (List.mem_cons_of_mem _ hx)).2.1
  have hl := h1 l List.mem_cons_self
  have h2 : n * ((l.2 + 1 - l.1).toNat * vol lh) ≤ 1000000 := h2
  rcases Nat.eq_zero_or_pos n with h0 | hn
  · exact .inr h0
  left
  have m1 : n * (l.2 + 1 - l.1).toNat * 1 ≤ n * (l.2 + 1 - l.1).toNat * vol lh := Nat.mul_le_mul_left _ hv
  rw [Nat.mul_assoc n _ (vol lh)] at m1
  have m2 : n * 1 ≤ n * (l.2 + 1 - l.1).toNat := Nat.mul_le_mul_left _ (by omega)
  have m3 : 1 * (l.2 + 1 - l.1).toNat ≤ n * (l.2 + 1 - l.1).toNat := Nat.mul_le_mul_right _ hn
  exact ⟨hl, by omega, by omega, by omega⟩
theorem Step.tail {l : Int × Int} {lh : List (Int × Int)} {k n : Nat} (h : Step (l :: lh) k n) : Step lh (k + 1) (n * (l.2 + 1 - l.1).toNat) := by
  obtain ⟨h1, h2, h3⟩ := h
  refine ⟨fun x hx => h1 x (List.mem_cons_of_mem _ hx), ?_, by rw [List.length_cons] at h3; omega⟩
  have h2 : n * ((l.2 + 1 - l.1).toNat * vol lh) ≤ 1000000 := h2
  rw [Nat.mul_assoc]
  exact h2
theorem growL_len (acc : List (List Int)) (a b : Int) : (growL acc a b).length = acc.length * (b + 1 - a).toNat := by
  rw [← (grow_perm acc acc (List.Perm.refl _) a b).length_eq, grow_len]
theorem zip_ints (ls hs : List Int) : ((ls.map PyData.int).zip (hs.map PyData.int)).map (fun p => PyData.tuple [p.1, p.2]) = (ls.zip hs).map fun p => PyData.tuple [.int p.1, .int p.2] := by
  rw [List.zip_map, List.map_map]
  rfl
theorem sz_big {n : Nat} (h : n ≤ 16777216) : n ≤ SZ := h
theorem sz_lt {n : Nat} (h : n < 16777216) : n < SZ := h
end Bx

set_option Elab.async false
set_option linter.all false
set_option maxRecDepth 100000
set_option autoImplicit false
set_option maxHeartbeats 4000000
/-! All places and all boxes of a field: plain law. -/
namespace Bx
open PySem PySem.Spec PySem.W
/-- of one order and of the same things: one list -/
theorem sorted_ext {α : Type} {R : α → α → Prop} (ir : ∀ a, ¬ R a a) (as : ∀ a b, R a b → ¬ R b a) : ∀ {l m : List α}, l.Pairwise R → m.Pairwise R → (∀ x, x ∈ l ↔ x ∈ m) → l = m
  | [], [], _, _, _ => rfl
  | [], y :: m, _, _, h => by have := (h y).mpr List.mem_cons_self; simp at this
  | x :: l, [], _, _, h => by have := (h x).mp List.mem_cons_self; simp at this
  | x :: l, y :: m, h1, h2, h => by
    have p1 := List.pairwise_cons.mp h1
    have p2 := List.pairwise_cons.mp h2
    have e : x = y := by
      rcases List.mem_cons.mp ((h x).mp List.mem_cons_self) with e | m1
      · exact e
      rcases List.mem_cons.mp ((h y).mpr List.mem_cons_self) with e | m2
      · exact e.symm
      exact absurd (p2.1 x m1) (as _ _ (p1.1 y m2))
    subst e
    rw [sorted_ext ir as p1.2 p2.2 fun z => ?_]
    constructor
    · intro hz
      rcases List.mem_cons.mp ((h z).mp (List.mem_cons_of_mem _ hz)) with e | hz'
      · subst e
        exact absurd (p1.1 _ hz) (ir _)
      · exact hz'
    · intro hz
      rcases List.mem_cons.mp ((h z).mpr (List.mem_cons_of_mem _ hz)) with e | hz'
      · subst e
        exact absurd (p2.1 _ hz) (ir _)
      · exact hz'
theorem listLt_irr : ∀ p : List Int, listLt p p = false
  | [] => by simp [listLt]
  | x :: p => by rw [listLt.eq_def]; simp only [if_true]; exact listLt_irr p
theorem listLt_asym : ∀ p q : List Int, listLt p q = true → listLt q p = false
  | [], [], h => by simp [listLt] at h
  | [], _ :: _, _ => by simp [listLt]
  | _ :: _, [], h => by simp [listLt] at h
  | x :: p, y :: q, h => by
    unfold listLt at h ⊢
    by_cases e : x = y
    · subst e
      rw [if_pos rfl] at h ⊢
      exact listLt_asym p q h
    · rw [if_neg e] at h
      rw [if_neg fun z => e z.symm]
      have h : decide (x < y) = true := h
      show decide (y < x) = false
      simp at h ⊢
      omega
theorem places_ext {l m : List (List Int)} (h1 : l.Pairwise fun p q => listLt p q = true) (h2 : m.Pairwise fun p q => listLt p q = true) (h : ∀ x, x ∈ l ↔ x ∈ m) : l = m :=
  sorted_ext (fun a ha => by rw [listLt_irr] at ha; cases ha) (fun a b h1 h2 => by rw [listLt_asym a b h1] at h2; cases h2) h1 h2 h
/-- sorted, of places -/
theorem sort_box (lh : List (Int × Int)) : sortL ((boxL lh).map Tup.mk) = (boxP lh).map Tup.mk := by
  refine perm_sorted ((sortL_perm _).trans ((box_perm lh).symm.map _)) (sortL_sorted _) ?_
  rw [List.pairwise_map]
  refine List.Pairwise.imp (fun {p q} h => ?_) (box_bef lh).2
  show (!listLt q p) = true
  rw [listLt_asym p q h]
  rfl
/-! ### a field's sides -/
def sl (ss : List Int) : List (Int × Int) := ss.map fun s => (0, s - 1)
def allP (ss : List Int) : List (List Int) := boxP (sl ss)
def volS (ss : List Int) : Int := ss.foldr (· * ·) 1
/-- sides of at least one, few cells -/
def okS (n : Int) (ss : List Int) : Prop := (∀ s ∈ ss, 1 ≤ s) ∧ volS ss ≤ n ∧ ss.length ≤ 1000
theorem volS_pos {ss : List Int} (h : ∀ s ∈ ss, 1 ≤ s) : 1 ≤ volS ss := by
  induction ss with
  | nil => exact Int.le_refl _
  | cons s ss ih =>
    have h1 := h s List.mem_cons_self
    have h2 := ih fun x hx => h x (List.mem_cons_of_mem _ hx)
    show 1 ≤ s * volS ss
    have := Int.mul_le_mul h1 h2 (by decide) (by omega)
    omega
theorem side_le {ss : List Int} (h : ∀ s ∈ ss, 1 ≤ s) : ∀ s ∈ ss, s ≤ volS ss := by
  induction ss with
  | nil => exact fun _ h => by simp at h
  | cons s ss ih =>
    intro x hx
    have h1 := h s List.mem_cons_self
    have hr : ∀ x ∈ ss, 1 ≤ x := fun x hx => h x (List.mem_cons_of_mem _ hx)
    have h2 := volS_pos hr
    show x ≤ s * volS ss
    rcases List.mem_cons.mp hx with rfl | hx
    · have := Int.mul_le_mul_of_nonneg_left h2 (show 0 ≤ x by omega)
      omega
    · have := ih hr x hx
      have := Int.mul_le_mul_of_nonneg_right h1 (show 0 ≤ volS ss by omega)
      omega
theorem vol_sl {ss : List Int} (h : ∀ s ∈ ss, 1 ≤ s) : (vol (sl ss) : Int) = volS ss := by
  induction ss with
  | nil => rfl
  | cons s ss ih =>
    have h1 := h s List.mem_cons_self
    show (((s - 1 + 1 - 0).toNat * vol (sl ss) : Nat) : Int) = s * volS ss
    rw [Int.natCast_mul, ih fun x hx => h x (List.mem_cons_of_mem _ hx)]
    congr 1
    omega
theorem okS.fits {n : Int} {ss : List Int} (h : okS n ss) (hn : n ≤ 1000000) : fits (sl ss) := by
  refine ⟨fun l hl => ?_, ?_, by unfold sl; rw [List.length_map]; exact h.2.2⟩
  · unfold sl at hl
    obtain ⟨s, hs, rfl⟩ := List.mem_map.mp hl
    have := h.1 s hs
    have := side_le h.1 s hs
    have := h.2.1
    simp only
    omega
  · have := vol_sl h.1
    have := h.2.1
    omega
theorem fold_len (lh : List (Int × Int)) : ∀ acc : List (List Int), (lh.foldl (fun acc p => grow acc p.1 p.2) acc).length = acc.length * vol lh := by
  induction lh with
  | nil => intro acc; simp [vol]
  | cons l lh ih => intro acc; rw [List.foldl_cons, ih, grow_len, Nat.mul_assoc]; rfl
theorem box_len (lh : List (Int × Int)) : (boxP lh).length = vol lh := by
  unfold boxP
  rw [fold_len]
  simp
theorem allP_len {n : Int} {ss : List Int} (h : okS n ss) : ((allP ss).length : Int) = volS ss := by
  unfold allP
  rw [box_len, vol_sl h.1]
theorem volS_app (a b : List Int) : volS (a ++ b) = volS a * volS b := by
  induction a with
  | nil => show volS b = 1 * volS b; omega
  | cons x a ih => show x * volS (a ++ b) = x * volS a * volS b; rw [ih, Int.mul_assoc]
theorem volS_one (x : Int) : volS [x] = x := by show x * 1 = x; omega
theorem volS_rev (a : List Int) : volS a.reverse = volS a := by
  induction a with
  | nil => rfl
  | cons x a ih => rw [List.reverse_cons, volS_app, ih, volS_one, Int.mul_comm]; rfl
/-- lo within the field -/
def inF (ss : List Int) (p : List Int) : Prop := btw (sl ss) p
theorem allP_mem (ss p : List Int) : p ∈ allP ss ↔ inF ss p := box_mem _ _
/-- what lies above lo -/
def up (ss lo : List Int) : List (Int × Int) := lo.zip (ss.map fun s => s - 1)
theorem up_vol : ∀ (ss lo : List Int), (∀ s ∈ ss, 1 ≤ s) → inF ss lo → vol (up ss lo) ≤ vol (sl ss)
  | [], [], _, _ => Nat.le_refl _
  | [], _ :: _, _, h => h.elim
  | _ :: _, [], _, h => h.elim
  | s :: ss, x :: lo, h, hi => by
    have ih := up_vol ss lo (fun y hy => h y (List.mem_cons_of_mem _ hy)) hi.2
    have h1 : 0 ≤ x ∧ x ≤ s - 1 := hi.1
    show (s - 1 + 1 - x).toNat * vol (up ss lo) ≤ (s - 1 + 1 - 0).toNat * vol (sl ss)
    exact Nat.mul_le_mul (by omega) ih
theorem up_in : ∀ (ss lo : List Int), inF ss lo → ∀ l ∈ up ss lo, 0 ≤ l.1 ∧ l.1 ≤ l.2 ∧ ∃ s ∈ ss, l.2 = s - 1
  | [], [], _ => fun l h => by simp [up] at h
  | [], _ :: _, h => h.elim
  | _ :: _, [], h => h.elim
  | s :: ss, x :: lo, hi => by
    intro l hl
    rcases List.mem_cons.mp hl with rfl | hl
    · have h1 : 0 ≤ x ∧ x ≤ s - 1 := hi.1
      exact ⟨h1.1, h1.2, s, List.mem_cons_self, rfl⟩
    · obtain ⟨h1, h2, y, hy, e⟩ := up_in ss lo hi.2 l hl
      exact ⟨h1, h2, y, List.mem_cons_of_mem _ hy, e⟩
theorem up_fits {n : Int} {ss lo : List Int} (h : okS n ss) (hn : n ≤ 1000000) (hi : inF ss lo) : fits (up ss lo) := by
  refine ⟨fun l hl => ?_, ?_, ?_⟩
  · obtain ⟨h1, h2, s, hs, e⟩ := up_in ss lo hi l hl
    have := side_le h.1 s hs
    have := h.2.1
    omega
  · have := up_vol ss lo h.1 hi
    have := (h.fits hn).2.1
    omega
  · unfold up
    rw [List.length_zip, List.length_map]
    have := h.2.2
    omega
/-- lo is nowhere more than hi -/
def leP : List Int → List Int → Bool
  | x :: p, y :: q => decide (x ≤ y) && leP p q
  | _, _ => true
theorem up_mem : ∀ (ss lo hi : List Int), inF ss lo → (btw (up ss lo) hi ↔ inF ss hi ∧ leP lo hi = true)
  | [], [], hi, _ => by
    cases hi with
    | nil => simp [up, btw, inF, sl, leP]
    | cons x hi => simp [up, btw, inF, sl]
  | [], _ :: _, _, h => h.elim
  | _ :: _, [], _, h => h.elim
  | s :: ss, x :: lo, hi, h => by
    cases hi with
    | nil => simp [up, btw, inF, sl]
    | cons y hi =>
      have ih := up_mem ss lo hi h.2
      have h1 : 0 ≤ x ∧ x ≤ s - 1 := h.1
      have e1 : btw (up (s :: ss) (x :: lo)) (y :: hi) ↔ (x ≤ y ∧ y ≤ s - 1) ∧ btw (up ss lo) hi := Iff.rfl
      have e2 : inF (s :: ss) (y :: hi) ↔ (0 ≤ y ∧ y ≤ s - 1) ∧ inF ss hi := Iff.rfl
      have e3 : leP (x :: lo) (y :: hi) = (decide (x ≤ y) && leP lo hi) := rfl
      rw [e1, e2, e3, ih, Bool.and_eq_true, decide_eq_true_eq]
      constructor
      · rintro ⟨⟨a, b⟩, c, d⟩
        exact ⟨⟨⟨by omega, b⟩, c⟩, a, d⟩
      · rintro ⟨⟨⟨a, b⟩, c⟩, d, e⟩
        exact ⟨⟨d, b⟩, c, e⟩
theorem up_filter {ss lo : List Int} (h : inF ss lo) : boxP (up ss lo) = (allP ss).filter (leP lo) := by
  refine places_ext (box_bef _).2 (List.Pairwise.filter _ (box_bef _).2) fun p => ?_
  rw [box_mem, up_mem ss lo p h, List.mem_filter, allP_mem]
def boxes (ss : List Int) : List (List Int × List Int) := (allP ss).flatMap fun lo => (boxP (up ss lo)).map fun hi => (lo, hi)
def tb (b : List Int × List Int) : PyData := .tuple [tp b.1, tp b.2]
theorem inF_len : ∀ (ss p : List Int), inF ss p → p.length = ss.length
  | [], [], _ => rfl
  | [], _ :: _, h => h.elim
  | _ :: _, [], h => h.elim
  | s :: ss, x :: p, h => by rw [List.length_cons, List.length_cons, inF_len ss p h.2]
theorem flat_le {α β : Type} (f : α → List β) (n : Nat) : ∀ l : List α, (∀ a ∈ l, (f a).length ≤ n) → (l.flatMap f).length ≤ l.length * n
  | [], _ => by simp
  | a :: l, h => by
    have := flat_le f n l fun b hb => h b (List.mem_cons_of_mem _ hb)
    have := h a List.mem_cons_self
    rw [List.flatMap_cons, List.length_append, List.length_cons, Nat.succ_mul]
    omega
theorem fold_flat {α β : Type} (f : α → List β) : ∀ (l : List α) (acc : List β), l.foldl (fun acc a => acc ++ f a) acc = acc ++ l.flatMap f
  | [], acc => by simp
  | a :: l, acc => by rw [List.foldl_cons, fold_flat f l]; simp
theorem fold_filter {α β : Type} (p : α → Bool) (f : α → β) : ∀ (l : List α) (acc : List β), l.foldl (fun acc a => if p a = true then acc ++ [f a] else acc) acc = acc ++ (l.filter p).map f
  | [], acc => by simp
  | a :: l, acc => by
    rw [List.foldl_cons, fold_filter p f l]
    cases hp : p a <;> simp [hp]
theorem leP_iff : ∀ (lo hi : List Int), lo.length = hi.length → (leP lo hi = true ↔ ∀ k < lo.length, lo.getD k 0 ≤ hi.getD k 0)
  | [], _, _ => by simp [leP]
  | x :: lo, [], h => by simp at h
  | x :: lo, y :: hi, h => by
    have ih := leP_iff lo hi (by simpa using h)
    have e : leP (x :: lo) (y :: hi) = (decide (x ≤ y) && leP lo hi) := rfl
    rw [e, Bool.and_eq_true, decide_eq_true_eq, ih]
    constructor
    · rintro ⟨h1, h2⟩ k hk
      cases k with
      | zero => exact h1
      | succ k => exact h2 k (by simpa using hk)
    · intro h3
      exact ⟨h3 0 (by simp), fun k hk => h3 (k + 1) (by simpa using hk)⟩
theorem leP_filter (lo hi : List Int) (h : lo.length = hi.length) : decide ((List.range lo.length).filter (fun k => decide (hi.getD k 0 < lo.getD k 0)) = []) = leP lo hi := by
  by_cases hl : leP lo hi = true
  · rw [hl]
    refine decide_eq_true (List.filter_eq_nil_iff.mpr fun k hk => ?_)
    have := (leP_iff lo hi h).mp hl k (by simpa using hk)
    simp only [decide_eq_true_eq]
    omega
  · rw [Bool.eq_false_iff.mpr hl]
    refine decide_eq_false fun e => hl ((leP_iff lo hi h).mpr fun k hk => ?_)
    have := List.filter_eq_nil_iff.mp e k (by simpa using hk)
    simp only [decide_eq_true_eq] at this
    omega
theorem atI_getD (l : List Int) (k : Nat) (h : k < l.length) : L2.atI (l.map PyData.int) (k : Int) = some (.int (l.getD k 0)) := by
  rw [atI_nat, List.getElem?_map, List.getElem?_eq_getElem h, List.getD_eq_getElem?_getD, List.getElem?_eq_getElem h]
  rfl
theorem cmp_eqnil {α : Type} [DecidableEq α] [Datum α] (l : List α) (h : Datum.depth α ≤ 63) : cmpD .eq (.list (l.map Datum.toD)) (.list []) = some (decide (l = [])) := by
  have e : ∀ m : List α, PyData.list (m.map Datum.toD) = Datum.toD m := fun _ => rfl
  have o : ∀ m : List α, okD (.list (m.map Datum.toD)) = true := fun m => by
    rw [e]
    exact okD_toD m (by show Datum.depth α + 1 ≤ 64; omega)
  have e2 : PyData.eqv (.list (l.map Datum.toD)) (.list []) = decide (l = []) := Datum.eqv l []
  rw [cmp_eq, o l, show okD (.list []) = true from o [], e2]
  rfl
end Bx

set_option Elab.async false
set_option linter.all false
set_option maxRecDepth 100000
set_option autoImplicit false
set_option maxHeartbeats 4000000
/-! Typed steps: what they come to. -/
namespace Bx
open PySem PySem.Spec PySem.W
section
variable {α β γ σ ρ A : Type}
/-- it ends, with what is wanted -/
def Tr (m : Option α) (Q : α → Prop) : Prop := ∃ v, m = some v ∧ Q v
theorem Tr.some {v : α} {Q : α → Prop} (h : Q v) : Tr (Option.some v) Q := ⟨v, rfl, h⟩
theorem Tr.bind {m : Option α} {k : α → Option β} {P : α → Prop} {Q : β → Prop} (h : Tr m P) (hk : ∀ v, P v → Tr (k v) Q) : Tr (m.bind k) Q := by
  obtain ⟨v, e, p⟩ := h
  rw [e]
  exact hk v p
theorem Tr.mono {m : Option α} {P Q : α → Prop} (h : Tr m P) (hk : ∀ v, P v → Q v) : Tr m Q := by
  obtain ⟨v, e, p⟩ := h
  exact ⟨v, e, hk v p⟩
theorem Tr.of {m : Option α} {v : α} {Q : α → Prop} (e : m = Option.some v) (h : Q v) : Tr m Q := ⟨v, e, h⟩
theorem Tr.eq {m : Option α} {x : α} {k : α → Option β} {Q : β → Prop} (e : m = Option.some x) (h : Tr (k x) Q) : Tr (m.bind k) Q := by rw [e]; exact h
theorem Tr.is {m : Option α} {x : α} (h : Tr m fun v => v = x) : m = Option.some x := by
  obtain ⟨v, e, rfl⟩ := h
  exact e
theorem Tr.ite {c : Prop} [Decidable c] {x y : Option α} {Q : α → Prop} (h1 : c → Tr x Q) (h2 : ¬ c → Tr y Q) : Tr (if c then x else y) Q := by
  by_cases h : c
  · rw [if_pos h]; exact h1 h
  · rw [if_neg h]; exact h2 h
theorem bd {m : Option α} {v : α} {k : α → Option β} (h : m = some v) : m.bind k = k v := by rw [h]; rfl
theorem sz_of {n : Nat} (h : n ≤ 16777216) : n ≤ SZ := h
/-! guards that are met -/
theorem mul_l {i j : Int} (h1 : -18446744073709551616 < i) (h2 : i < 18446744073709551616) : mulS i j = some (i * j) := by
  unfold mulS
  rw [if_pos (by rw [small_in h1 h2]; rfl)]
theorem mul_r {i j : Int} (h1 : -18446744073709551616 < j) (h2 : j < 18446744073709551616) : mulS i j = some (i * j) := by
  unfold mulS
  rw [if_pos (by rw [small_in h1 h2]; cases smallI i <;> rfl)]
theorem mod_ok {i j : Int} (h : 0 < j) : modS i j = some (i % j) := by unfold modS; rw [if_pos h]
theorem fdiv_ok {i j : Int} (h : 0 < j) (h2 : j < 1073741824) : fdivS i j = some (i / j) := by unfold fdivS; rw [if_pos ⟨h, h2⟩]
theorem cat_ok {xs ys : List α} (h : xs.length + ys.length ≤ 16777216) : catS xs ys = some (xs ++ ys) := by unfold catS; rw [if_pos (sz_of h)]
theorem app_ok {xs : List α} {y : α} (h : xs.length < 16777216) : appS xs y = some (xs ++ [y]) := by unfold appS; rw [if_pos (show xs.length < SZ from h)]
theorem ins_ok {xs : List α} {i : Int} {y : α} (h : xs.length < 16777216) (h0 : 0 ≤ i) (h1 : i < 9223372036854775808) : insS xs i y = some (xs.take i.toNat ++ [y] ++ xs.drop i.toNat) := by unfold insS; rw [if_pos ⟨show xs.length < SZ from h, h0, h1⟩]
theorem at_ok {xs : List α} {i : Int} (h0 : 0 ≤ i) (h1 : i < xs.length) : atS xs i = xs[i.toNat]? := by
  unfold atS L2.atI
  rw [ixN_in h0 h1]
  rfl
theorem at_nat {xs : List α} (i : Nat) : atS xs (i : Int) = xs[i]? := atI_nat i
theorem Tr.at {xs : List α} {i : Int} {Q : α → Prop} (h0 : 0 ≤ i) (h1 : i < xs.length) (h : ∀ x ∈ xs, Q x) : Tr (atS xs i) Q := by
  rw [at_ok h0 h1, List.getElem?_eq_getElem (by omega)]
  exact ⟨_, rfl, h _ (List.getElem_mem _)⟩
theorem rg_ok {n : Int} (h : n < 4611686018427387904) (h0 : -4611686018427387904 ≤ n) : rgS n = some ((List.range n.toNat).map fun (i : Nat) => (i : Int)) := by
  unfold rgS
  rw [if_pos ⟨h0, h⟩]
theorem rg2_ok {a b : Int} (h1 : -4611686018427387904 ≤ a) (h2 : a < 4611686018427387904) (h3 : -4611686018427387904 ≤ b) (h4 : b < 4611686018427387904) : rg2S a b = some ((List.range (b - a).toNat).map fun (i : Nat) => a + (i : Int)) := by
  unfold rg2S
  rw [if_pos ⟨h1, h2, h3, h4⟩]
/-! comprehensions -/
theorem mapM_eq {f : α → Option β} {g : α → β} : ∀ {l : List α}, (∀ a ∈ l, f a = some (g a)) → mapM' f l = some (l.map g)
  | [], _ => rfl
  | a :: l, h => by
    unfold mapM'
    rw [h a List.mem_cons_self, mapM_eq fun b hb => h b (List.mem_cons_of_mem _ hb)]
    rfl
theorem map_eq {f : α → Option β} (g : α → β) {l : List α} (hz : l.length ≤ 16777216) (h : ∀ a ∈ l, f a = some (g a)) : mapS f l = some (l.map g) := by
  unfold mapS
  rw [if_pos (sz_of hz), mapM_eq h]
theorem filM_eq {p : α → Option Bool} {q : α → Bool} {f : α → Option β} {g : α → β} : ∀ {l : List α}, (∀ a ∈ l, p a = some (q a)) → (∀ a ∈ l, q a = true → f a = some (g a)) → filM p f l = some ((l.filter q).map g)
  | [], _, _ => rfl
  | a :: l, h1, h2 => by
    have ih := filM_eq (l := l) (fun b hb => h1 b (List.mem_cons_of_mem _ hb)) fun b hb => h2 b (List.mem_cons_of_mem _ hb)
    unfold filM
    rw [h1 a List.mem_cons_self]
    cases hq : q a with
    | true =>
      simp only [h2 a List.mem_cons_self hq, ih, List.filter_cons_of_pos hq, List.map_cons]
    | false => simp [ih, hq]
theorem fil_eq {p : α → Option Bool} (q : α → Bool) {f : α → Option β} (g : α → β) {l : List α} (hz : l.length ≤ 16777216) (h1 : ∀ a ∈ l, p a = some (q a)) (h2 : ∀ a ∈ l, q a = true → f a = some (g a)) : filS p f l = some ((l.filter q).map g) := by
  unfold filS
  rw [if_pos (sz_of hz), filM_eq h1 h2]
/-- what stands at one place stands so at the other -/
inductive All2 (R : α → β → Prop) : List α → List β → Prop
  | nil : All2 R [] []
  | cons {a : α} {b : β} {l : List α} {m : List β} : R a b → All2 R l m → All2 R (a :: l) (b :: m)
theorem All2.len {R : α → β → Prop} {l : List α} {m : List β} (h : All2 R l m) : m.length = l.length := by
  induction h with
  | nil => rfl
  | cons _ _ ih => rw [List.length_cons, List.length_cons, ih]
theorem All2.right {R : α → β → Prop} {Q : β → Prop} {l : List α} {m : List β} (h : All2 R l m) (q : ∀ a ∈ l, ∀ b, R a b → Q b) : ∀ b ∈ m, Q b := by
  induction h with
  | nil => intro b hb; simp at hb
  | cons r _ ih =>
    intro b hb
    rcases List.mem_cons.mp hb with rfl | hb
    · exact q _ List.mem_cons_self _ r
    · exact ih (fun a ha => q a (List.mem_cons_of_mem _ ha)) b hb
theorem All2.at {R : α → β → Prop} {l : List α} {m : List β} (h : All2 R l m) : ∀ (i : Nat) (a : α), l[i]? = some a → ∃ b, m[i]? = some b ∧ R a b := by
  induction h with
  | nil => intro i a e; simp at e
  | cons r _ ih =>
    intro i a e
    cases i with
    | zero => simp at e; subst e; exact ⟨_, rfl, r⟩
    | succ i => simpa using ih i a (by simpa using e)
theorem mapMT_tr {f : σ → α → Option (β × σ)} {I : σ → Prop} {R : α → β → Prop} : ∀ {l : List α} {s : σ}, I s → (∀ a ∈ l, ∀ s, I s → Tr (f s a) fun r => R a r.1 ∧ I r.2) → Tr (mapMT f s l) fun r => All2 R l r.1 ∧ I r.2
  | [], s, i, _ => ⟨_, rfl, .nil, i⟩
  | a :: l, s, i, h => by
    obtain ⟨⟨b, s1⟩, e1, r1, i1⟩ := h a List.mem_cons_self s i
    obtain ⟨⟨bs, s2⟩, e2, r2, i2⟩ := mapMT_tr i1 fun b hb => h b (List.mem_cons_of_mem _ hb)
    refine ⟨(b :: bs, s2), ?_, .cons r1 r2, i2⟩
    unfold mapMT
    rw [e1]
    simp only [e2]
theorem Tr.mapT {f : σ → α → Option (β × σ)} (I : σ → Prop) (R : α → β → Prop) {l : List α} {s : σ} (hz : l.length ≤ 16777216) (i : I s) (h : ∀ a ∈ l, ∀ s, I s → Tr (f s a) fun r => R a r.1 ∧ I r.2) : Tr (mapT f s l) fun r => All2 R l r.1 ∧ I r.2 := by
  unfold Bx.mapT
  rw [if_pos (sz_of hz)]
  exact mapMT_tr i h
/-! loops -/
theorem for_eq {f : σ → α → Option σ} (g : σ → α → σ) (P : List α → σ → Prop) : ∀ {l : List α} {s : σ}, P l s → (∀ a l s, P (a :: l) s → f s a = some (g s a) ∧ P l (g s a)) → forS f s l = some (l.foldl g s) ∧ P [] (l.foldl g s)
  | [], s, p, _ => ⟨rfl, p⟩
  | a :: l, s, p, h => by
    obtain ⟨e, p1⟩ := h a l s p
    obtain ⟨e2, p2⟩ := for_eq g P p1 h
    refine ⟨?_, p2⟩
    unfold forS
    rw [e]
    exact e2
theorem Tr.for {f : σ → α → Option σ} (P : List α → σ → Prop) {l : List α} {s : σ} (p : P l s) (h : ∀ a l s, P (a :: l) s → Tr (f s a) (P l)) : Tr (forS f s l) (P []) := by
  induction l generalizing s with
  | nil => exact ⟨s, rfl, p⟩
  | cons a l ih =>
    obtain ⟨s1, e, p1⟩ := h a l s p
    unfold forS
    rw [e]
    exact ih p1
/-- no turn leaves the loop -/
theorem Tr.forR {f : σ → α → Option (Rr σ ρ)} (P : List α → σ → Prop) {l : List α} {s : σ} (p : P l s) (h : ∀ a l s, P (a :: l) s → Tr (f s a) fun r => ∃ s1, r = .nx s1 ∧ P l s1) : Tr (forR f s l) fun r => ∃ s1, r = .nx s1 ∧ P [] s1 := by
  induction l generalizing s with
  | nil => exact ⟨_, rfl, s, rfl, p⟩
  | cons a l ih =>
    obtain ⟨_, e, s1, rfl, p1⟩ := h a l s p
    unfold Bx.forR
    rw [e]
    exact ih p1
theorem Tr.onR {m : Option (Rr σ ρ)} {kr : ρ → Option A} {kn : σ → Option A} {P : σ → Prop} {Q : A → Prop} (h : Tr m fun r => ∃ s, r = .nx s ∧ P s) (hk : ∀ s, P s → Tr (kn s) Q) : Tr (m.bind fun r => onR r kr kn) Q := by
  obtain ⟨_, e, s, rfl, p⟩ := h
  rw [e]
  exact hk s p
theorem Tr.wh {c : σ → Option Bool} {f : σ → Option σ} (P : σ → Prop) (μ : σ → Nat) {Q : σ → Prop} (h : ∀ s, P s → Tr (c s) fun b => (b = true → Tr (f s) fun s1 => P s1 ∧ μ s1 < μ s) ∧ (b = false → Q s)) : ∀ (n : Nat) {s : σ}, P s → μ s < n → Tr (whS c f n s) Q
  | 0, s, _, hm => absurd hm (Nat.not_lt_zero _)
  | n + 1, s, p, hm => by
    obtain ⟨b, e, h1, h2⟩ := h s p
    unfold whS
    rw [e]
    cases b with
    | true =>
      obtain ⟨s1, e1, p1, m1⟩ := h1 rfl
      simp only [e1]
      exact Tr.wh P μ h n p1 (by omega)
    | false => exact ⟨s, rfl, h2 rfl⟩
end
end Bx
namespace Bx
open PySem PySem.Spec PySem.W
/-! ### shown within bounds -/
structure Shn (d : PyData) (n k : Nat) : Prop where
  plain : d.plain = true
  showable : d.showable = true
  cost : Bx.cost d ≤ n
  depth : d.depth ≤ k
theorem Shn.mono {d : PyData} {n k n' k' : Nat} (h : Shn d n k) (h1 : n ≤ n') (h2 : k ≤ k') : Shn d n' k' := ⟨h.plain, h.showable, Nat.le_trans h.cost h1, Nat.le_trans h.depth h2⟩
theorem Shn.shw {d : PyData} {n k : Nat} (h : Shn d n k) (h1 : n ≤ 16777216) (h2 : k ≤ 64) : Shw d := ⟨h.plain, h.showable, Nat.le_trans h.cost h1, Nat.le_trans h.depth h2⟩
theorem repr_shw {d : PyData} (h : Shw d) : reprS d = some d.shown := by unfold reprS; rw [if_pos h.repr]
theorem Shn.repr {d : PyData} {n k : Nat} (h : Shn d n k) (h1 : n ≤ 16777216) (h2 : k ≤ 64) : reprS d = some d.shown := repr_shw (h.shw h1 h2)
theorem shn_int {i : Int} {k : Nat} (h : i.natAbs < 2 ^ k) (hk : k ≤ 1900) : Shn (.int i) (k + 2) 1 := by
  refine ⟨rfl, ?_, cost_int h, by simp [PyData.depth]⟩
  show decide (i.natAbs.log2 < 1920) = true
  refine decide_eq_true ?_
  by_cases h0 : i.natAbs = 0
  · rw [h0]; decide
  · have := (Nat.log2_lt h0).mpr h
    omega
theorem shn_bool (b : Bool) : Shn (.bool b) 5 1 := ⟨rfl, rfl, Nat.le_refl _, by simp [PyData.depth]⟩
section
variable {α β γ δ : Type}
theorem shn_L {e : α → PyData} {xs : List α} {n k m : Nat} (h : ∀ x ∈ xs, Shn (e x) n k) (hm : xs.length ≤ m) : Shn (eL e xs) (m * (n + 2) + 3) (k + 1) := by
  refine ⟨?_, ?_, ?_, ?_⟩
  · show PyData.plainAll (xs.map e) = true
    clear hm
    induction xs with
    | nil => rfl
    | cons x xs ih =>
      simp only [List.map_cons, PyData.plainAll, (h x List.mem_cons_self).plain, ih fun y hy => h y (List.mem_cons_of_mem _ hy), Bool.and_self]
  · exact showableAll_map e xs fun a ha => (h a ha).showable
  · have := costAll_map e n xs fun a ha => (h a ha).cost
    show costAll (xs.map e) + 3 ≤ _
    have := Nat.mul_le_mul_right (n + 2) hm
    omega
  · show PyData.depthAll (xs.map e) + 1 ≤ k + 1
    clear hm
    have : PyData.depthAll (xs.map e) ≤ k := by
      induction xs with
      | nil => exact Nat.zero_le _
      | cons x xs ih =>
        have h1 := (h x List.mem_cons_self).depth
        have h2 := ih fun y hy => h y (List.mem_cons_of_mem _ hy)
        simp only [List.map_cons, PyData.depthAll]
        omega
    omega
theorem shn_T {e : α → PyData} {xs : List α} {n k m : Nat} (h : ∀ x ∈ xs, Shn (e x) n k) (hm : xs.length ≤ m) : Shn (eT e xs) (m * (n + 2) + 3) (k + 1) := by
  have z := shn_L h hm
  exact ⟨z.plain, z.showable, z.cost, z.depth⟩
theorem shn_P2 {e1 : α → PyData} {e2 : β → PyData} {p : α × β} {n m k : Nat} (h1 : Shn (e1 p.1) n k) (h2 : Shn (e2 p.2) m k) : Shn (eP2 e1 e2 p) (n + m + 7) (k + 1) := by
  refine ⟨?_, ?_, ?_, ?_⟩
  · show PyData.plainAll [e1 p.1, e2 p.2] = true
    simp only [PyData.plainAll, h1.plain, h2.plain, Bool.and_self]
  · show PyData.showableAll [e1 p.1, e2 p.2] = true
    simp only [PyData.showableAll, h1.showable, h2.showable, Bool.and_self]
  · show cost (e1 p.1) + 2 + (cost (e2 p.2) + 2 + 0) + 3 ≤ _
    have := h1.cost; have := h2.cost
    omega
  · show PyData.depthAll [e1 p.1, e2 p.2] + 1 ≤ k + 1
    have := h1.depth; have := h2.depth
    simp only [PyData.depthAll]
    omega
theorem shn_P3 {e1 : α → PyData} {e2 : β → PyData} {e3 : γ → PyData} {p : α × β × γ} {n m l k : Nat} (h1 : Shn (e1 p.1) n k) (h2 : Shn (e2 p.2.1) m k) (h3 : Shn (e3 p.2.2) l k) : Shn (eP3 e1 e2 e3 p) (n + m + l + 9) (k + 1) := by
  refine ⟨?_, ?_, ?_, ?_⟩
  · show PyData.plainAll [e1 p.1, e2 p.2.1, e3 p.2.2] = true
    simp only [PyData.plainAll, h1.plain, h2.plain, h3.plain, Bool.and_self]
  · show PyData.showableAll [e1 p.1, e2 p.2.1, e3 p.2.2] = true
    simp only [PyData.showableAll, h1.showable, h2.showable, h3.showable, Bool.and_self]
  · show cost (e1 p.1) + 2 + (cost (e2 p.2.1) + 2 + (cost (e3 p.2.2) + 2 + 0)) + 3 ≤ _
    have := h1.cost; have := h2.cost; have := h3.cost
    omega
  · show PyData.depthAll [e1 p.1, e2 p.2.1, e3 p.2.2] + 1 ≤ k + 1
    have := h1.depth; have := h2.depth; have := h3.depth
    simp only [PyData.depthAll]
    omega
end
end Bx
namespace Bx
open PySem PySem.Spec PySem.W
/-! ### sorted -/
section
variable {α β : Type}
/-- data that sorted takes: no None, no empty tuple -/
def Sok (d : PyData) : Prop := (∃ x xs, d = .tuple (x :: xs)) ∨ (match d with | .none => false | .tuple _ => false | _ => true) = true
theorem srt_guard [DecidableEq β] [Lin β] {e : α → PyData} {f : α → β} (he : ∀ a, e a = Datum.toD (f a)) {xs : List α} (hz : xs.length ≤ 16777216) (hd : Datum.depth β ≤ 64)
    (hk : (∀ a ∈ xs, ∃ x ys, e a = .tuple (x :: ys)) ∨ (∀ a ∈ xs, (match e a with | .none => false | .tuple _ => false | _ => true) = true)) : sortOk (xs.map e) = true := by
  unfold sortOk
  simp only [Bool.and_eq_true, List.all_map, List.all_eq_true, Function.comp, decide_eq_true_eq, List.length_map, Bool.or_eq_true]
  refine ⟨⟨⟨fun a _ b _ => by rw [he, he]; exact DatumOrd.alike _ _, fun a _ => by rw [he]; exact ⟨Nat.le_trans (Datum.depth_le _) hd, Datum.plain _⟩⟩, ?_⟩, hz⟩
  rcases hk with hk | hk
  · exact .inl fun a ha => by obtain ⟨x, ys, e⟩ := hk a ha; rw [e]
  · exact .inr fun a ha => hk a ha
theorem srt_le [DecidableEq β] [Lin β] {e : α → PyData} {f : α → β} (he : ∀ a, e a = Datum.toD (f a)) : (fun a b => dataLe false id (e a) (e b)) = fun a b => leL (f a) (f b) := by
  funext a b
  rw [he, he, dataLe_toD]
/-- sorted, as the list stands -/
theorem srt_id [DecidableEq β] [Lin β] {e : α → PyData} (f : α → β) (he : ∀ a, e a = Datum.toD (f a)) {xs : List α} (hz : xs.length ≤ 16777216) (hd : Datum.depth β ≤ 64)
    (hk : (∀ a ∈ xs, ∃ x ys, e a = .tuple (x :: ys)) ∨ (∀ a ∈ xs, (match e a with | .none => false | .tuple _ => false | _ => true) = true)) (hp : xs.Pairwise fun a b => leL (f a) (f b) = true) : srtS e xs = some xs := by
  unfold srtS
  rw [if_pos (srt_guard he hz hd hk), srt_le he]
  congr 1
  exact List.mergeSort_of_pairwise hp
/-- sorted, of one order -/
theorem srt_lin [DecidableEq α] [Lin α] {e : α → PyData} (he : ∀ a, e a = Datum.toD a) {xs : List α} (hz : xs.length ≤ 16777216) (hd : Datum.depth α ≤ 64)
    (hk : (∀ a ∈ xs, ∃ x ys, e a = .tuple (x :: ys)) ∨ (∀ a ∈ xs, (match e a with | .none => false | .tuple _ => false | _ => true) = true)) : srtS e xs = some (sortL xs) := by
  unfold srtS
  rw [if_pos (srt_guard (f := id) he hz hd hk), srt_le (f := id) he]
  rfl
theorem srt_ints {xs : List Int} (hz : xs.length ≤ 16777216) : srtS PyData.int xs = some (sortL xs) := srt_lin (fun _ => rfl) hz (by decide) (.inr fun _ _ => rfl)
theorem leL_int (a b : Int) : leL a b = decide (a ≤ b) := by
  show (!decide (b < a)) = decide (a ≤ b)
  by_cases h : b < a
  · rw [decide_eq_true h, decide_eq_false (by omega)]; rfl
  · rw [decide_eq_false h, decide_eq_true (by omega)]; rfl
theorem sort_two (a b : Int) : sortL [a, b] = [min a b, max a b] := by
  refine perm_sorted ((sortL_perm _).trans ?_) (sortL_sorted _) ?_
  · by_cases h : a ≤ b
    · rw [show min a b = a by omega, show max a b = b by omega]
    · rw [show min a b = b by omega, show max a b = a by omega]
      exact List.Perm.swap _ _ _
  · simp [leL_int]
    omega
end
/-- the data of a pair with a place ahead -/
def fTI (p : List Int × Int) : Tup Int × Int := (Tup.mk p.1, p.2)
theorem fTI_ok (p : List Int × Int) : eP2 (eT PyData.int) PyData.int p = Datum.toD (fTI p) := rfl
end Bx

set_option Elab.async false
set_option linter.all false
set_option maxRecDepth 100000
set_option autoImplicit false
set_option maxHeartbeats 4000000
/-! Grids: places, ranks, running sums, in plain words. -/
namespace Bx
open PySem PySem.Spec PySem.W
/-! ### places from the front -/
theorem fold_grow : ∀ (lh : List (Int × Int)) (acc : List (List Int)), lh.foldl (fun acc p => grow acc p.1 p.2) acc = acc.flatMap fun q => (boxP lh).map fun s => q ++ s
  | [], acc => by
    show acc = _
    simp [boxP]
  | l :: lh, acc => by
    unfold boxP
    rw [List.foldl_cons, List.foldl_cons, fold_grow lh, fold_grow lh]
    unfold grow
    simp only [List.flatMap_assoc, List.flatMap_map, List.map_flatMap, List.map_map, List.flatMap_cons, List.flatMap_nil, List.append_nil, List.nil_append]
    congr 1
    funext q
    congr 1
    funext o
    congr 1
    funext s
    simp
theorem boxP_nil : boxP [] = [[]] := rfl
theorem boxP_cons (l : Int × Int) (lh : List (Int × Int)) : boxP (l :: lh) = (rng l.1 l.2).flatMap fun x => (boxP lh).map fun q => x :: q := by
  have h : boxP (l :: lh) = lh.foldl (fun acc p => grow acc p.1 p.2) (grow [[]] l.1 l.2) := rfl
  rw [h, fold_grow]
  unfold grow
  simp only [List.flatMap_cons, List.flatMap_nil, List.append_nil, List.flatMap_map]
  rfl
theorem allP_cons (s : Int) (ss : List Int) : allP (s :: ss) = (rng 0 (s - 1)).flatMap fun x => (allP ss).map fun q => x :: q := boxP_cons _ _
/-! ### ranks -/
def strides : List Int → List Int
  | [] => []
  | _ :: ss => volS ss :: strides ss
def rnk (ss p : List Int) : Int := (((strides ss).zip p).map fun x => x.1 * x.2).sum
theorem strides_len : ∀ ss : List Int, (strides ss).length = ss.length
  | [] => rfl
  | _ :: ss => by rw [strides, List.length_cons, List.length_cons, strides_len ss]
theorem rnk_nil (p : List Int) : rnk [] p = 0 := rfl
theorem rnk_cons (s : Int) (ss : List Int) (x : Int) (p : List Int) : rnk (s :: ss) (x :: p) = volS ss * x + rnk ss p := by
  simp [rnk, strides]
theorem range_mul (n m : Nat) : List.range (n * m) = (List.range n).flatMap fun i => (List.range m).map fun j => i * m + j := by
  induction n with
  | zero => simp
  | succ n ih =>
    rw [Nat.succ_mul, List.range_add, ih, List.range_succ, List.flatMap_append]
    simp
/-- the ranks of all places are 0, 1, .. -/
theorem ranks : ∀ ss : List Int, (∀ s ∈ ss, 1 ≤ s) → (allP ss).map (rnk ss) = (List.range (volS ss).toNat).map fun (i : Nat) => (i : Int)
  | [], _ => rfl
  | s :: ss, h => by
    have hs := h s List.mem_cons_self
    have hr : ∀ x ∈ ss, 1 ≤ x := fun x hx => h x (List.mem_cons_of_mem _ hx)
    have ih := ranks ss hr
    have hv := volS_pos hr
    have e : (volS (s :: ss)).toNat = s.toNat * (volS ss).toNat := by
      show (s * volS ss).toNat = _
      rw [Int.toNat_mul (by omega) (by omega)]
    rw [e, range_mul, allP_cons]
    simp only [List.map_flatMap, List.map_map]
    unfold rng
    have e2 : (s - 1 + 1 - 0).toNat = s.toNat := by congr 1; omega
    rw [e2, List.flatMap_map]
    congr 1
    funext i
    have e3 : ((rnk (s :: ss)) ∘ fun q => (0 + (i : Int)) :: q) = (fun j => volS ss * (i : Int) + j) ∘ rnk ss := by
      funext q
      show rnk (s :: ss) ((0 + (i : Int)) :: q) = _
      rw [rnk_cons, Int.zero_add]
      rfl
    rw [e3, ← List.map_map, ih, List.map_map]
    congr 1
    funext j
    show volS ss * (i : Int) + (j : Int) = ((i * (volS ss).toNat + j : Nat) : Int)
    rw [Int.natCast_add, Int.natCast_mul, Int.toNat_of_nonneg (by omega), Int.mul_comm]
theorem allP_count {ss : List Int} (h : ∀ s ∈ ss, 1 ≤ s) : (allP ss).length = (volS ss).toNat := by
  have := congrArg List.length (ranks ss h)
  simpa using this
theorem rank_at {ss : List Int} (h : ∀ s ∈ ss, 1 ≤ s) {i : Nat} {p : List Int} (e : (allP ss)[i]? = some p) : rnk ss p = i := by
  have h1 : ((allP ss).map (rnk ss))[i]? = some (rnk ss p) := by rw [List.getElem?_map, e]; rfl
  rw [ranks ss h, List.getElem?_map] at h1
  have hi : i < (allP ss).length := (List.getElem?_eq_some_iff.mp e).1
  rw [allP_count h] at hi
  rw [List.getElem?_range hi] at h1
  exact (Option.some.inj h1).symm
theorem at_rank {ss p : List Int} (h : ∀ s ∈ ss, 1 ≤ s) (hp : inF ss p) : 0 ≤ rnk ss p ∧ rnk ss p < volS ss ∧ (allP ss)[(rnk ss p).toNat]? = some p := by
  obtain ⟨i, hi, e⟩ := List.getElem_of_mem ((allP_mem ss p).mpr hp)
  have e1 : (allP ss)[i]? = some p := by rw [List.getElem?_eq_getElem hi, e]
  have e2 := rank_at h e1
  have hv := volS_pos h
  rw [allP_count h] at hi
  refine ⟨by omega, by omega, ?_⟩
  rw [e2, Int.toNat_natCast]
  exact e1
/-- a table by places, read at a place's rank -/
theorem tab_at {α : Type} {ss p : List Int} (f : List Int → α) (h : ∀ s ∈ ss, 1 ≤ s) (hp : inF ss p) : atS ((allP ss).map f) (rnk ss p) = some (f p) := by
  obtain ⟨h1, h2, h3⟩ := at_rank h hp
  rw [at_ok h1 (by rw [List.length_map, allP_count h]; omega), List.getElem?_map, h3]
  rfl
/-- the cells as a function of the place -/
def cellF {α : Type} [Inhabited α] (ss : List Int) (cs : List α) (p : List Int) : α := cs.getD (rnk ss p).toNat default
theorem cells_eq {α : Type} [Inhabited α] {ss : List Int} {cs : List α} (h : ∀ s ∈ ss, 1 ≤ s) (hl : (cs.length : Int) = volS ss) : cs = (allP ss).map (cellF ss cs) := by
  have hv := volS_pos h
  refine List.ext_getElem? fun i => ?_
  rw [List.getElem?_map]
  by_cases hi : i < cs.length
  · have hi2 : i < (allP ss).length := by rw [allP_count h]; omega
    have e := List.getElem?_eq_getElem hi2
    rw [e]
    have r := rank_at h e
    show cs[i]? = some (cellF ss cs _)
    unfold cellF
    rw [r, Int.toNat_natCast, List.getD_eq_getElem?_getD, List.getElem?_eq_getElem hi]
    rfl
  · rw [List.getElem?_eq_none (by omega), List.getElem?_eq_none (by rw [allP_count h]; omega)]
    rfl
/-! ### sums over boxes -/
def SB (lh : List (Int × Int)) (f : List Int → Int) : Int := ((boxP lh).map f).sum
theorem SB_nil (f : List Int → Int) : SB [] f = f [] := by simp [SB, boxP_nil]
theorem sum_flat {α : Type} (g : α → List Int) (l : List α) : (l.flatMap g).sum = (l.map fun a => (g a).sum).sum := by
  induction l with
  | nil => rfl
  | cons a l ih => simp [ih]
theorem SB_cons (l : Int × Int) (lh : List (Int × Int)) (f : List Int → Int) : SB (l :: lh) f = ((rng l.1 l.2).map fun x => SB lh fun q => f (x :: q)).sum := by
  unfold SB
  rw [boxP_cons, List.map_flatMap, sum_flat]
  congr 1
  refine List.map_congr_left fun x _ => ?_
  rw [List.map_map]
  rfl
theorem rng_snoc {a b : Int} (h : a ≤ b) : rng a b = rng a (b - 1) ++ [b] := by
  unfold rng
  have e : (b + 1 - a).toNat = (b - 1 + 1 - a).toNat + 1 := by omega
  rw [e, List.range_succ, List.map_append]
  congr 1
  simp
  omega
theorem rng_none {a b : Int} (h : b < a) : rng a b = [] := by
  unfold rng
  have e : (b + 1 - a).toNat = 0 := by omega
  rw [e]; rfl
theorem SB_step {a b : Int} (h : a ≤ b) (lh : List (Int × Int)) (f : List Int → Int) : SB ((a, b) :: lh) f = SB ((a, b - 1) :: lh) f + SB lh fun q => f (b :: q) := by
  rw [SB_cons, SB_cons, rng_snoc h, List.map_append, List.sum_append]
  simp
theorem SB_none {a b : Int} (h : b < a) (lh : List (Int × Int)) (f : List Int → Int) : SB ((a, b) :: lh) f = 0 := by
  rw [SB_cons, rng_none h]; rfl
/-! ### what lies beneath -/
def ben : List Int → List (Int × List Int)
  | [] => [(1, [])]
  | x :: p => ((ben p).map fun e => (e.1, x :: e.2)) ++ if 0 < x then (ben p).map fun e => (-e.1, (x - 1) :: e.2) else []
theorem ben_cons (x : Int) (p : List Int) : ben (x :: p) = ((ben p).map fun e => (e.1, x :: e.2)) ++ if 0 < x then (ben p).map fun e => (-e.1, (x - 1) :: e.2) else [] := by rw [ben]
def ev (t : List Int → Int) (l : List (Int × List Int)) : Int := (l.map fun e => e.1 * t e.2).sum
def dn (p : List Int) : List (Int × Int) := p.map fun x => (0, x)
theorem ev_app (t : List Int → Int) (l m : List (Int × List Int)) : ev t (l ++ m) = ev t l + ev t m := by simp [ev]
theorem ev_map (t : List Int → Int) (x : Int) (l : List (Int × List Int)) : ev t (l.map fun e => (e.1, x :: e.2)) = ev (fun q => t (x :: q)) l := by
  unfold ev
  rw [List.map_map]
  rfl
theorem ev_neg (t : List Int → Int) (x : Int) (l : List (Int × List Int)) : ev t (l.map fun e => (-e.1, x :: e.2)) = - ev (fun q => t (x :: q)) l := by
  unfold ev
  rw [List.map_map]
  induction l with
  | nil => rfl
  | cons e l ih =>
    rw [List.map_cons, List.map_cons, List.sum_cons, List.sum_cons, ih]
    simp only [Function.comp]
    rw [Int.neg_mul]
    omega
theorem ev_sub (t u : List Int → Int) (l : List (Int × List Int)) : ev t l - ev u l = ev (fun q => t q - u q) l := by
  unfold ev
  induction l with
  | nil => rfl
  | cons e l ih =>
    simp only [List.map_cons, List.sum_cons]
    rw [← ih, Int.mul_sub]
    omega
theorem ev_congr {t u : List Int → Int} {l : List (Int × List Int)} (h : ∀ e ∈ l, t e.2 = u e.2) : ev t l = ev u l := by
  unfold ev
  congr 1
  refine List.map_congr_left fun e he => ?_
  rw [h e he]
/-- the signed sum beneath of running sums is the cell -/
theorem ben_ev : ∀ (p : List Int) (f : List Int → Int), (∀ x ∈ p, 0 ≤ x) → ev (fun q => SB (dn q) f) (ben p) = f p
  | [], f, _ => by simp [ben, ev, dn, SB_nil]
  | x :: p, f, h => by
    have hx := h x List.mem_cons_self
    have ih := ben_ev p (fun q => f (x :: q)) fun y hy => h y (List.mem_cons_of_mem _ hy)
    have st : ∀ q : List Int, SB (dn (x :: q)) f = SB ((0, x - 1) :: dn q) f + SB (dn q) fun s => f (x :: s) := fun q => SB_step hx _ _
    unfold ben
    rw [ev_app, ev_map]
    by_cases h0 : 0 < x
    · rw [if_pos h0, ev_neg, ← Int.sub_eq_add_neg, ev_sub, ← ih]
      refine ev_congr fun e _ => ?_
      rw [st]
      show SB ((0, x - 1) :: dn e.2) f + SB (dn e.2) (fun s => f (x :: s)) - SB (dn ((x - 1) :: e.2)) f = _
      show SB ((0, x - 1) :: dn e.2) f + SB (dn e.2) (fun s => f (x :: s)) - SB ((0, x - 1) :: dn e.2) f = _
      omega
    · rw [if_neg h0, ← ih]
      show _ + 0 = _
      rw [Int.add_zero]
      refine ev_congr fun e _ => ?_
      rw [st, SB_none (by omega), Int.zero_add]
theorem ben_head : ∀ p : List Int, ∃ t, ben p = (1, p) :: t
  | [] => ⟨[], rfl⟩
  | x :: p => by
    obtain ⟨t, e⟩ := ben_head p
    unfold ben
    rw [e]
    exact ⟨_, rfl⟩
theorem ben_sign : ∀ (p : List Int), ∀ e ∈ ben p, e.1 = 1 ∨ e.1 = -1
  | [], e, h => by simp [ben] at h; exact .inl (by rw [h])
  | x :: p, e, h => by
    unfold ben at h
    rcases List.mem_append.mp h with h | h
    · obtain ⟨d, hd, rfl⟩ := List.mem_map.mp h
      exact ben_sign p d hd
    · split at h
      · obtain ⟨d, hd, rfl⟩ := List.mem_map.mp h
        have := ben_sign p d hd
        show -d.1 = 1 ∨ -d.1 = -1
        omega
      · simp at h
theorem ben_in : ∀ (ss p : List Int), inF ss p → ∀ e ∈ ben p, inF ss e.2
  | [], [], _, e, h => by simp [ben] at h; rw [h]; trivial
  | [], _ :: _, h, _, _ => h.elim
  | _ :: _, [], h, _, _ => h.elim
  | s :: ss, x :: p, hp, e, h => by
    have hx : 0 ≤ x ∧ x ≤ s - 1 := hp.1
    unfold ben at h
    rcases List.mem_append.mp h with h | h
    · obtain ⟨d, hd, rfl⟩ := List.mem_map.mp h
      exact ⟨hx, ben_in ss p hp.2 d hd⟩
    · split at h
      · obtain ⟨d, hd, rfl⟩ := List.mem_map.mp h
        exact ⟨show 0 ≤ x - 1 ∧ x - 1 ≤ s - 1 by omega, ben_in ss p hp.2 d hd⟩
      · simp at h
theorem ben_le : ∀ (ss p : List Int), (∀ s ∈ ss, 1 ≤ s) → inF ss p → ∀ e ∈ ben p, rnk ss e.2 ≤ rnk ss p
  | [], [], _, _, e, h => by simp [rnk_nil]
  | [], _ :: _, _, h, _, _ => h.elim
  | _ :: _, [], _, h, _, _ => h.elim
  | s :: ss, x :: p, hs, hp, e, h => by
    have hr : ∀ y ∈ ss, 1 ≤ y := fun y hy => hs y (List.mem_cons_of_mem _ hy)
    have hv := volS_pos hr
    unfold ben at h
    rcases List.mem_append.mp h with h | h
    · obtain ⟨d, hd, rfl⟩ := List.mem_map.mp h
      have := ben_le ss p hr hp.2 d hd
      simp only [rnk_cons]
      omega
    · split at h
      · obtain ⟨d, hd, rfl⟩ := List.mem_map.mp h
        have := ben_le ss p hr hp.2 d hd
        simp only [rnk_cons, Int.mul_sub, Int.mul_one]
        omega
      · simp at h
theorem ben_lt : ∀ (ss p : List Int), (∀ s ∈ ss, 1 ≤ s) → inF ss p → ∀ e ∈ (ben p).tail, rnk ss e.2 < rnk ss p
  | [], [], _, _, e, h => by simp [ben] at h
  | [], _ :: _, _, h, _, _ => h.elim
  | _ :: _, [], _, h, _, _ => h.elim
  | s :: ss, x :: p, hs, hp, e, h => by
    have hr : ∀ y ∈ ss, 1 ≤ y := fun y hy => hs y (List.mem_cons_of_mem _ hy)
    have hv := volS_pos hr
    obtain ⟨t, et⟩ := ben_head p
    have et2 : (ben (x :: p)).tail = (t.map fun e => (e.1, x :: e.2)) ++ if 0 < x then (ben p).map fun e => (-e.1, (x - 1) :: e.2) else [] := by
      rw [ben, et]; rfl
    rw [et2] at h
    rcases List.mem_append.mp h with h | h
    · obtain ⟨d, hd, rfl⟩ := List.mem_map.mp h
      have := ben_lt ss p hr hp.2 d (by rw [et]; exact hd)
      simp only [rnk_cons]
      omega
    · split at h
      · obtain ⟨d, hd, rfl⟩ := List.mem_map.mp h
        have := ben_le ss p hr hp.2 d hd
        simp only [rnk_cons, Int.mul_sub, Int.mul_one]
        omega
      · simp at h
/-- the loops' way to it: from the left -/
theorem ben_fold : ∀ (p : List Int) (acc : List (Int × List Int)), p.foldl (fun acc x => acc.flatMap fun e => (e.1, e.2 ++ [x]) :: if 0 < x then [(-e.1, e.2 ++ [x - 1])] else []) acc = acc.flatMap fun e => (ben p).map fun d => (e.1 * d.1, e.2 ++ d.2)
  | [], acc => by simp [ben]
  | x :: p, acc => by
    rw [List.foldl_cons, ben_fold p, List.flatMap_assoc]
    congr 1
    funext e
    rw [ben_cons]
    by_cases h : 0 < x
    · simp [h, List.map_map, Function.comp_def, Int.neg_mul, Int.mul_neg]
    · simp [h, List.map_map, Function.comp_def]
theorem ben_eq (p : List Int) : p.foldl (fun acc x => acc.flatMap fun e => (e.1, e.2 ++ [x]) :: if 0 < x then [(-e.1, e.2 ++ [x - 1])] else []) [(1, [])] = ben p := by
  rw [ben_fold]
  simp
/-! ### all cells at no greater numbers -/
theorem leP_all : ∀ q p : List Int, ((q.zip p).map fun a => decide (a.1 ≤ a.2)).all id = leP q p
  | [], _ => by simp [leP]
  | _ :: _, [] => by simp [leP]
  | x :: q, y :: p => by
    rw [List.zip_cons_cons, List.map_cons, List.all_cons, leP_all q p]
    rfl
theorem dn_mem : ∀ (ss p q : List Int), inF ss p → (btw (dn p) q ↔ inF ss q ∧ leP q p = true)
  | [], [], q, _ => by
    cases q with
    | nil => simp [dn, btw, inF, sl, leP]
    | cons x q => simp [dn, btw, inF, sl]
  | [], _ :: _, _, h => h.elim
  | _ :: _, [], _, h => h.elim
  | s :: ss, x :: p, q, h => by
    cases q with
    | nil => simp [dn, btw, inF, sl]
    | cons y q =>
      have ih := dn_mem ss p q h.2
      have h1 : 0 ≤ x ∧ x ≤ s - 1 := h.1
      have e1 : btw (dn (x :: p)) (y :: q) ↔ (0 ≤ y ∧ y ≤ x) ∧ btw (dn p) q := Iff.rfl
      have e2 : inF (s :: ss) (y :: q) ↔ (0 ≤ y ∧ y ≤ s - 1) ∧ inF ss q := Iff.rfl
      have e3 : leP (y :: q) (x :: p) = (decide (y ≤ x) && leP q p) := rfl
      rw [e1, e2, e3, ih, Bool.and_eq_true, decide_eq_true_eq]
      constructor
      · rintro ⟨⟨a, b⟩, c, d⟩
        exact ⟨⟨⟨a, by omega⟩, c⟩, b, d⟩
      · rintro ⟨⟨⟨a, b⟩, c⟩, d, e⟩
        exact ⟨⟨a, d⟩, c, e⟩
theorem dn_filter {ss p : List Int} (h : inF ss p) : boxP (dn p) = (allP ss).filter fun q => leP q p := by
  refine places_ext (box_bef _).2 (List.Pairwise.filter _ (box_bef _).2) fun q => ?_
  rw [box_mem, dn_mem ss p q h, List.mem_filter, allP_mem]
theorem inF_nonneg : ∀ {ss p : List Int}, inF ss p → ∀ x ∈ p, 0 ≤ x
  | [], [], _, x, h => by simp at h
  | [], _ :: _, h, _, _ => h.elim
  | _ :: _, [], h, _, _ => h.elim
  | s :: ss, y :: p, hp, x, h => by
    rcases List.mem_cons.mp h with rfl | h
    · exact hp.1.1
    · exact inF_nonneg hp.2 x h
theorem fold_if {α : Type} (p : α → Bool) (g : α → Int) : ∀ (l : List α) (t : Int), l.foldl (fun t a => if p a = true then t + g a else t) t = t + ((l.filter p).map g).sum
  | [], t => by simp
  | a :: l, t => by
    rw [List.foldl_cons, fold_if p g l]
    cases h : p a with
    | true => simp [h, Int.add_assoc]
    | false => simp [h]
end Bx
namespace Bx
open PySem PySem.Spec PySem.W
/-! ### steps and running sums, there and back -/
theorem SB_sub (lh : List (Int × Int)) (f g : List Int → Int) : SB lh (fun q => f q - g q) = SB lh f - SB lh g := by
  unfold SB
  induction boxP lh with
  | nil => rfl
  | cons q l ih =>
    simp only [List.map_cons, List.sum_cons, ih]
    omega
theorem SB_congr {lh : List (Int × Int)} {f g : List Int → Int} (h : ∀ q ∈ boxP lh, f q = g q) : SB lh f = SB lh g := by
  unfold SB
  rw [List.map_congr_left h]
theorem SB_ben : ∀ (p : List Int) (f : List Int → Int), (∀ x ∈ p, 0 ≤ x) → SB (dn p) (fun q => ev f (ben q)) = f p
  | [], f, _ => by simp [dn, SB_nil, ben, ev]
  | x :: p, f, h => by
    have hp : ∀ y ∈ p, 0 ≤ y := fun y hy => h y (List.mem_cons_of_mem _ hy)
    have ih : ∀ i : Int, SB (dn p) (fun q => ev (fun s => f (i :: s)) (ben q)) = f (i :: p) := fun i => SB_ben p (fun s => f (i :: s)) hp
    have go : ∀ n : Nat, SB ((0, (n : Int)) :: dn p) (fun q => ev f (ben q)) = f ((n : Int) :: p) := by
      intro n
      induction n with
      | zero =>
        rw [SB_step (by omega), SB_none (by omega), Int.zero_add, ← ih]
        refine SB_congr fun q _ => ?_
        rw [ben_cons, ev_app, ev_map]
        simp [ev]
      | succ n ihn =>
        rw [SB_step (by omega)]
        have e : ((n + 1 : Nat) : Int) - 1 = (n : Int) := by omega
        rw [e, ihn]
        have e2 : SB (dn p) (fun q => ev f (ben (((n + 1 : Nat) : Int) :: q))) = SB (dn p) (fun q => ev (fun s => f (((n + 1 : Nat) : Int) :: s)) (ben q)) - SB (dn p) (fun q => ev (fun s => f ((n : Int) :: s)) (ben q)) := by
          rw [← SB_sub]
          refine SB_congr fun q _ => ?_
          rw [ben_cons, ev_app, ev_map, if_pos (by omega), ev_neg, e]
          omega
        rw [e2, ih, ih]
        omega
    have hx := h x List.mem_cons_self
    have := go x.toNat
    rw [Int.toNat_of_nonneg hx] at this
    exact this
/-- the running table, by places -/
def runT (ss cs : List Int) : List Int := (allP ss).map fun p => SB (dn p) (cellF ss cs)
/-- the steps, by places -/
def stepT (ss cs : List Int) : List Int := (allP ss).map fun p => ev (cellF ss cs) (ben p)
theorem map_len {ss : List Int} (f : List Int → Int) (h : ∀ s ∈ ss, 1 ≤ s) : (((allP ss).map f).length : Int) = volS ss := by
  rw [List.length_map, allP_count h]
  have := volS_pos h
  omega
theorem cellF_tab {ss p : List Int} (f : List Int → Int) (h : ∀ s ∈ ss, 1 ≤ s) (hp : inF ss p) : cellF ss ((allP ss).map f) p = f p := by
  obtain ⟨h1, h2, h3⟩ := at_rank h hp
  unfold cellF
  rw [List.getD_eq_getElem?_getD, List.getElem?_map, h3]
  rfl
theorem boxP_in {ss p : List Int} (hp : inF ss p) : ∀ q ∈ boxP (dn p), inF ss q := fun q hq => ((dn_mem ss p q hp).mp ((box_mem _ _).mp hq)).1
theorem step_run {ss cs : List Int} (h : ∀ s ∈ ss, 1 ≤ s) (hl : (cs.length : Int) = volS ss) : stepT ss ((allP ss).map fun p => SB (dn p) (cellF ss cs)) = cs := by
  unfold stepT
  conv => rhs; rw [cells_eq h hl]
  refine List.map_congr_left fun p hp => ?_
  have hp := (allP_mem ss p).mp hp
  have e : ev (cellF ss ((allP ss).map fun p => SB (dn p) (cellF ss cs))) (ben p) = ev (fun q => SB (dn q) (cellF ss cs)) (ben p) := ev_congr fun e he => cellF_tab _ h (ben_in ss p hp e he)
  rw [e, ben_ev p _ (inF_nonneg hp)]
theorem run_step {ss cs : List Int} (h : ∀ s ∈ ss, 1 ≤ s) (hl : (cs.length : Int) = volS ss) : ((allP ss).map fun p => SB (dn p) (cellF ss (stepT ss cs))) = cs := by
  conv => rhs; rw [cells_eq h hl]
  refine List.map_congr_left fun p hp => ?_
  have hp := (allP_mem ss p).mp hp
  have e : SB (dn p) (cellF ss (stepT ss cs)) = SB (dn p) (fun q => ev (cellF ss cs) (ben q)) := SB_congr fun q hq => cellF_tab _ h (boxP_in hp q hq)
  rw [e, SB_ben p _ (inF_nonneg hp)]
/-! bounds -/
theorem sum_bound {α : Type} (f : α → Int) (M : Nat) : ∀ l : List α, (∀ a ∈ l, (f a).natAbs ≤ M) → ((l.map f).sum).natAbs ≤ l.length * M
  | [], _ => by simp
  | a :: l, h => by
    have h1 := h a List.mem_cons_self
    have h2 := sum_bound f M l fun b hb => h b (List.mem_cons_of_mem _ hb)
    rw [List.map_cons, List.sum_cons, List.length_cons, Nat.succ_mul]
    omega
theorem filter_le {α : Type} (p : α → Bool) (l : List α) : (l.filter p).length ≤ l.length := List.length_filter_le p l
theorem SB_bound {ss p : List Int} {f : List Int → Int} {M : Nat} (h : ∀ s ∈ ss, 1 ≤ s) (hp : inF ss p) (hf : ∀ q, inF ss q → (f q).natAbs ≤ M) : (SB (dn p) f).natAbs ≤ (volS ss).toNat * M := by
  unfold SB
  refine Nat.le_trans (sum_bound f M _ fun q hq => hf q (boxP_in hp q hq)) (Nat.mul_le_mul_right _ ?_)
  rw [dn_filter hp, ← allP_count h]
  exact filter_le _ _
/-- all ones are within -/
def Within (M : Nat) (l : List Int) : Prop := ∀ x ∈ l, x.natAbs ≤ M
theorem cellF_within {ss cs p : List Int} {M : Nat} (h : Within M cs) : (cellF ss cs p).natAbs ≤ M := by
  unfold cellF
  rw [List.getD_eq_getElem?_getD]
  cases e : cs[(rnk ss p).toNat]? with
  | none => exact Nat.zero_le _
  | some x => exact h x (List.mem_of_getElem? e)
theorem costAll_ints (k : Nat) : ∀ l : List Int, (∀ x ∈ l, x.natAbs < 2 ^ k) → costAll (l.map .int) ≤ l.length * (k + 4)
  | l, h => by
    have := costAll_map PyData.int (k + 2) l fun a ha => cost_int (h a ha)
    exact this
end Bx
namespace Bx
open PySem PySem.Spec PySem.W
/-! ### corners -/
def cor : List Int → List Int → List (Int × List Int)
  | a :: lo, b :: hi => (if 0 < a then (cor lo hi).map fun e => (-e.1, (a - 1) :: e.2) else []) ++ (cor lo hi).map fun e => (e.1, b :: e.2)
  | _, _ => [(1, [])]
theorem cor_cons (a : Int) (lo : List Int) (b : Int) (hi : List Int) : cor (a :: lo) (b :: hi) = (if 0 < a then (cor lo hi).map fun e => (-e.1, (a - 1) :: e.2) else []) ++ (cor lo hi).map fun e => (e.1, b :: e.2) := by rw [cor]
def corStep (p : Int × Int) (e : Int × List Int) : List (Int × List Int) := (if 0 < p.1 then [(-e.1, e.2 ++ [p.1 - 1])] else []) ++ [(e.1, e.2 ++ [p.2])]
theorem cor_fold : ∀ (lo hi : List Int) (acc : List (Int × List Int)), (lo.zip hi).foldl (fun acc p => acc.flatMap (corStep p)) acc = acc.flatMap fun e => (cor lo hi).map fun d => (e.1 * d.1, e.2 ++ d.2)
  | [], _, acc => by simp [cor]
  | _ :: _, [], acc => by simp [cor]
  | a :: lo, b :: hi, acc => by
    rw [List.zip_cons_cons, List.foldl_cons, cor_fold lo hi, List.flatMap_assoc]
    congr 1
    funext e
    rw [cor_cons]
    unfold corStep
    by_cases h : 0 < a
    · simp [h, List.map_map, Function.comp_def, Int.neg_mul, Int.mul_neg]
    · simp [h, List.map_map, Function.comp_def]
theorem cor_eq (lo hi : List Int) : (lo.zip hi).foldl (fun acc p => acc.flatMap (corStep p)) [(1, [])] = cor lo hi := by
  rw [cor_fold]
  simp
theorem cor_len : ∀ lo hi : List Int, (cor lo hi).length ≤ 2 ^ lo.length
  | [], _ => by simp [cor]
  | _ :: _, [] => by simp [cor]; exact Nat.one_le_two_pow
  | a :: lo, b :: hi => by
    have ih := cor_len lo hi
    rw [cor_cons, List.length_append, List.length_map, List.length_cons, Nat.pow_succ]
    split
    · rw [List.length_map]; omega
    · simp; omega
theorem cor_sign : ∀ (lo hi : List Int), ∀ e ∈ cor lo hi, e.1 = 1 ∨ e.1 = -1
  | [], hi, e, h => by cases hi <;> simp [cor] at h <;> exact .inl (by rw [h])
  | a :: lo, [], e, h => by simp [cor] at h; exact .inl (by rw [h])
  | a :: lo, b :: hi, e, h => by
    rw [cor_cons] at h
    rcases List.mem_append.mp h with h | h
    · split at h
      · obtain ⟨d, hd, rfl⟩ := List.mem_map.mp h
        have := cor_sign lo hi d hd
        show -d.1 = 1 ∨ -d.1 = -1
        omega
      · simp at h
    · obtain ⟨d, hd, rfl⟩ := List.mem_map.mp h
      exact cor_sign lo hi d hd
theorem cor_in : ∀ (ss lo hi : List Int), inF ss lo → inF ss hi → ∀ e ∈ cor lo hi, inF ss e.2
  | [], [], [], _, _, e, h => by simp [cor] at h; rw [h]; trivial
  | [], _ :: _, _, h, _, _, _ => h.elim
  | [], [], _ :: _, _, h, _, _ => h.elim
  | _ :: _, [], _, h, _, _, _ => h.elim
  | _ :: _, _ :: _, [], _, h, _, _ => h.elim
  | s :: ss, a :: lo, b :: hi, h1, h2, e, h => by
    have ha : 0 ≤ a ∧ a ≤ s - 1 := h1.1
    rw [cor_cons] at h
    rcases List.mem_append.mp h with h | h
    · split at h
      · obtain ⟨d, hd, rfl⟩ := List.mem_map.mp h
        exact ⟨show 0 ≤ a - 1 ∧ a - 1 ≤ s - 1 by omega, cor_in ss lo hi h1.2 h2.2 d hd⟩
      · simp at h
    · obtain ⟨d, hd, rfl⟩ := List.mem_map.mp h
      exact ⟨h2.1, cor_in ss lo hi h1.2 h2.2 d hd⟩
/-- the corners rise by place -/
theorem cor_rise : ∀ (lo hi : List Int), leP lo hi = true → lo.length = hi.length → (cor lo hi).Pairwise fun d e => listLt d.2 e.2 = true
  | [], [], _, _ => by simp [cor]
  | [], _ :: _, _, h => by simp at h
  | _ :: _, [], _, h => by simp at h
  | a :: lo, b :: hi, h, hl => by
    have h' : decide (a ≤ b) = true ∧ leP lo hi = true := by
      have : (decide (a ≤ b) && leP lo hi) = true := h
      simpa using this
    have hab : a ≤ b := of_decide_eq_true h'.1
    have ih := cor_rise lo hi h'.2 (by simpa using hl)
    have same : ∀ x : Int, ((cor lo hi).map fun e : Int × List Int => (e.1, x :: e.2)).Pairwise fun d e => listLt d.2 e.2 = true := fun x => by
      rw [List.pairwise_map]
      refine ih.imp fun {d e} q => ?_
      show listLt (x :: d.2) (x :: e.2) = true
      rw [listLt.eq_def]
      simpa using q
    have same2 : ∀ x : Int, ((cor lo hi).map fun e : Int × List Int => (-e.1, x :: e.2)).Pairwise fun d e => listLt d.2 e.2 = true := fun x => by
      rw [List.pairwise_map]
      refine ih.imp fun {d e} q => ?_
      show listLt (x :: d.2) (x :: e.2) = true
      rw [listLt.eq_def]
      simpa using q
    rw [cor_cons]
    refine List.pairwise_append.mpr ⟨?_, same b, ?_⟩
    · split
      · exact same2 (a - 1)
      · exact List.Pairwise.nil
    · intro d hd e he
      split at hd
      · obtain ⟨d', _, rfl⟩ := List.mem_map.mp hd
        obtain ⟨e', _, rfl⟩ := List.mem_map.mp he
        show listLt ((a - 1) :: d'.2) (b :: e'.2) = true
        rw [listLt.eq_def]
        have ne : ¬ a - 1 = b := by omega
        simp only [ne, if_false]
        exact decide_eq_true (show a - 1 < b by omega)
      · simp at hd
/-- signs over the corners at no lesser numbers: one in the box, nought beyond -/
def cnt (l : List (Int × List Int)) (p : List Int) : Int := ((l.filter fun e => leP p e.2).map fun e => e.1).sum
theorem cnt_app (l m : List (Int × List Int)) (p : List Int) : cnt (l ++ m) p = cnt l p + cnt m p := by simp [cnt, List.filter_append]
theorem cnt_map (l : List (Int × List Int)) (x y : Int) (p : List Int) : cnt (l.map fun e => (e.1, x :: e.2)) (y :: p) = if y ≤ x then cnt l p else 0 := by
  unfold cnt
  induction l with
  | nil => simp
  | cons e l ih =>
    have e1 : leP (y :: p) (x :: e.2) = (decide (y ≤ x) && leP p e.2) := rfl
    by_cases h : y ≤ x <;> cases hp : leP p e.2 <;> simp [e1, h, hp, List.filter_cons, leP] at ih ⊢ <;> simp [ih]
theorem cnt_neg (l : List (Int × List Int)) (x y : Int) (p : List Int) : cnt (l.map fun e => (-e.1, x :: e.2)) (y :: p) = if y ≤ x then -cnt l p else 0 := by
  unfold cnt
  induction l with
  | nil => simp
  | cons e l ih =>
    have e1 : leP (y :: p) (x :: e.2) = (decide (y ≤ x) && leP p e.2) := rfl
    by_cases h : y ≤ x <;> cases hp : leP p e.2 <;> simp [e1, h, hp, List.filter_cons, leP] at ih ⊢ <;> simp [ih]
    omega
theorem cnt_cor : ∀ (lo hi p : List Int), leP lo hi = true → lo.length = hi.length → p.length = lo.length → (∀ x ∈ p, 0 ≤ x) → cnt (cor lo hi) p = if leP lo p = true ∧ leP p hi = true then 1 else 0
  | [], [], [], _, _, _, _ => by simp [cor, cnt, leP]
  | [], _ :: _, _, _, h, _, _ => by simp at h
  | _ :: _, [], _, _, h, _, _ => by simp at h
  | [], [], _ :: _, _, _, h, _ => by simp at h
  | _ :: _, _ :: _, [], _, _, h, _ => by simp at h
  | a :: lo, b :: hi, x :: p, h, hl, hp, h0 => by
    have h' : decide (a ≤ b) = true ∧ leP lo hi = true := by
      have : (decide (a ≤ b) && leP lo hi) = true := h
      simpa using this
    have hab : a ≤ b := of_decide_eq_true h'.1
    have ih := cnt_cor lo hi p h'.2 (by simpa using hl) (by simpa using hp) fun y hy => h0 y (List.mem_cons_of_mem _ hy)
    have hx := h0 x List.mem_cons_self
    have e1 : leP (a :: lo) (x :: p) = (decide (a ≤ x) && leP lo p) := rfl
    have e2 : leP (x :: p) (b :: hi) = (decide (x ≤ b) && leP p hi) := rfl
    rw [cor_cons, cnt_app, cnt_map, e1, e2]
    have e3 : cnt (if 0 < a then (cor lo hi).map fun e => (-e.1, (a - 1) :: e.2) else []) (x :: p) = if x ≤ a - 1 then -cnt (cor lo hi) p else 0 := by
      by_cases ha : 0 < a
      · rw [if_pos ha, cnt_neg]
      · rw [if_neg ha, if_neg (by omega)]; rfl
    rw [e3, ih]
    by_cases c1 : a ≤ x
    · have c3 : ¬ x ≤ a - 1 := by omega
      by_cases c2 : x ≤ b
      · simp [c1, c2, c3]
      · simp [c1, c2, c3]
    · have c3 : x ≤ a - 1 := by omega
      have c2 : x ≤ b := by omega
      simp [c1, c2, c3]
      split <;> omega
theorem leP_all2 : ∀ q p : List Int, ((q.zip p).map fun a => decide (a.2 ≤ a.1)).all id = leP p q
  | [], p => by cases p <;> simp [leP]
  | _ :: _, [] => by simp [leP]
  | x :: q, y :: p => by
    rw [List.zip_cons_cons, List.map_cons, List.all_cons, leP_all2 q p]
    rfl
/-- within low and high, number by number -/
theorem lies_all : ∀ lo p hi : List Int, p.length = lo.length → hi.length = lo.length → ((lo.zip (p.zip hi)).map fun a => (decide (a.1 ≤ a.2.1) && decide (a.2.1 ≤ a.2.2))).all id = (leP lo p && leP p hi)
  | [], p, hi, h1, h2 => by
    cases p with
    | nil => simp [leP]
    | cons x p => simp at h1
  | a :: lo, [], hi, h1, _ => by simp at h1
  | a :: lo, x :: p, [], _, h2 => by simp at h2
  | a :: lo, x :: p, b :: hi, h1, h2 => by
    have ih := lies_all lo p hi (by simpa using h1) (by simpa using h2)
    simp only [List.zip_cons_cons, List.map_cons, List.all_cons, ih, leP, id]
    cases decide (a ≤ x) <;> cases decide (x ≤ b) <;> cases leP lo p <;> cases leP p hi <;> rfl
end Bx

set_option Elab.async false
set_option linter.all false
set_option maxRecDepth 100000
set_option autoImplicit false
set_option maxHeartbeats 0
/-! the defs of law_k38_worths_parted in the small language (printed by g2.py) -/
namespace Lw
open PySem Bx
abbrev row : PySem.W.OpenLaw := PySem.Challenge.rw_boxsums_k38_worths_parted
def top (i : Nat) : Stmt := row.prog.main.body.getD i (.Pass ⟨0, 0, 0, 0⟩)
def nf_is_whole : Nat := 0
def nf_halved : Nat := 1
def nf_stretches : Nat := 2
def nf_worths : Nat := 3
def nf_flags_of : Nat := 4
def nf_parted : Nat := 5
def nf_is_knot : Nat := 6
def nf_holds_parted : Nat := 7
def nf_law_pen : Nat := 8
def nf_law_draw : Nat := 9
def nf_law_number : Nat := 10
def nf_law_row : Nat := 11
def nf_law_halves : Nat := 12
def nf_law_worths : Nat := 13
def nf_law_parting : Nat := 14
def nf_law_right : Nat := 15
def nf_law : Nat := 16
def f_is_whole : Fn := ⟨1, 1, (.cons (.rt (.an (.isi (.bw 0) [.int]) (.nt (.isi (.bw 0) [.bool])))) <|
    .nil), []⟩
def df_is_whole : Dn := ⟨⟨("is_whole", none), "is_whole", "is_whole", L2.defArgs (top 1), L2.defBody (top 1), L2.defScope (top 1), [], []⟩, ["thing"], ["thing"], f_is_whole⟩
def f_halved : Fn := ⟨2, 2, (.cons (.rt (.bin .fdiv (.bin .add (.bw 0) (.bw 1)) (.k (.int 2)))) <|
    .nil), []⟩
def df_halved : Dn := ⟨⟨("halved", none), "halved", "halved", L2.defArgs (top 3), L2.defBody (top 3), L2.defScope (top 3), [], []⟩, ["low", "high"], ["low", "high"], f_halved⟩
def f_stretches_c1 : Ex := (.cmp .lt (.bw 2) (.bt .len (.cons (.bw 1) .nil)))
def f_stretches_b1 : Ss := (.cons (.as (.tup (.nm 3) (.tup (.nm 4) .tupn)) (.ix (.bw 1) (.bw 2))) <|
    .cons (.iff (.cmp .lt (.bw 3) (.bw 4)) (.cons (.as (.nm 5) (.call nf_halved (.cons (.bw 3) (.cons (.bw 4) .nil)))) <|
    .cons (.ex (.mu .extend 1 (.cons (.lst (.cons (.tup (.cons (.v 3) (.cons (.v 5) .nil))) (.cons (.tup (.cons (.bin .add (.bw 5) (.k (.int 1))) (.cons (.v 4) .nil))) .nil))) .nil))) <|
    .nil) (.nil)) <|
    .cons (.as (.nm 2) (.bin .add (.bw 2) (.k (.int 1)))) <|
    .nil)
@[simp] theorem st_f_stretches_b1 : f_stretches_b1.st = [3, 4, 5, 2] := rfl
def f_stretches : Fn := ⟨1, 6, (.cons (.as (.nm 1) (.lst (.cons (.tup (.cons (.k (.int 0)) (.cons (.bin .sub (.bw 0) (.k (.int 1))) .nil))) .nil))) <|
    .cons (.as (.nm 2) (.k (.int 0))) <|
    .cons (.wh f_stretches_c1 f_stretches_b1 [3, 4, 5]) <|
    .cons (.rt (.bt .sorted (.cons (.bw 1) .nil))) <|
    .nil), [1, 2, 3, 4, 5]⟩
def df_stretches : Dn := ⟨⟨("stretches", none), "stretches", "stretches", L2.defArgs (top 4), L2.defBody (top 4), L2.defScope (top 4), [], []⟩, ["side", "found", "at", "low", "high", "middle"], ["side"], f_stretches⟩
def f_worths : Fn := ⟨1, 1, (.cons (.rt (.ss (.bw 0))) <|
    .nil), []⟩
def df_worths : Dn := ⟨⟨("worths", none), "worths", "worths", L2.defArgs (top 6), L2.defBody (top 6), L2.defScope (top 6), [], []⟩, ["numbers"], ["numbers"], f_worths⟩
def f_flags_of_b1 : Ss := (.cons (.as (.nm 5) (.ix (.bw 1) (.bw 4))) <|
    .cons (.iff (.ch .le .le (.ix (.bw 2) (.k (.int 0))) (.bw 5) (.ix (.bw 2) (.k (.int 1)))) (.cons (.ex (.mu .append 3 (.cons (.bt .int1 (.cons (.cmp .gt (.bw 5) (.bin .fdiv (.bin .add (.ix (.bw 2) (.k (.int 0))) (.ix (.bw 2) (.k (.int 1)))) (.k (.int 2)))) .nil)) .nil))) <|
    .nil) (.nil)) <|
    .nil)
@[simp] theorem st_f_flags_of_b1 : f_flags_of_b1.st = [5] := rfl
def f_flags_of : Fn := ⟨3, 6, (.cons (.as (.nm 3) (.lst .nil)) <|
    .cons (.fo (.nm 4) (.ov (.bw 0)) f_flags_of_b1 [4, 5]) <|
    .cons (.rt (.bt .tuple1 (.cons (.bw 3) .nil))) <|
    .nil), [3, 4, 5]⟩
def df_flags_of : Dn := ⟨⟨("flags_of", none), "flags_of", "flags_of", L2.defArgs (top 7), L2.defBody (top 7), L2.defScope (top 7), [], []⟩, ["numbers", "spots", "stretch", "found", "number", "at"], ["numbers", "spots", "stretch"], f_flags_of⟩
def f_parted_e1 : Ex := (.tup (.cons (.v 4) (.cons (.v 3) .nil)))
def f_parted_i1 : Ex := (.cmp .lt (.ix (.bw 2) (.k (.int 0))) (.ix (.bw 2) (.k (.int 1))))
def f_parted_e2 : Ex := (.tup (.cons (.v 2) (.cons (.call nf_flags_of (.cons (.bw 0) (.cons (.bw 1) (.cons (.bw 2) .nil)))) .nil)))
def f_parted : Fn := ⟨1, 5, (.cons (.as (.nm 1) (.bt .dct1 (.cons (.lc (.tup (.nm 3) (.tup (.nm 4) .tupn)) (.en (.call nf_worths (.cons (.bw 0) .nil))) (.k (.bool true)) f_parted_e1 [3, 4]) .nil))) <|
    .cons (.rt (.lc (.nm 2) (.ov (.call nf_stretches (.cons (.bt .len (.cons (.bw 1) .nil)) .nil))) f_parted_i1 f_parted_e2 [2])) <|
    .nil), [1]⟩
def df_parted : Dn := ⟨⟨("parted", none), "parted", "parted", L2.defArgs (top 8), L2.defBody (top 8), L2.defScope (top 8), [], []⟩, ["numbers", "spots", "one", "at", "number"], ["numbers"], f_parted⟩
def f_is_knot_e1 : Ex := (.call nf_is_whole (.cons (.bw 1) .nil))
def f_is_knot : Fn := ⟨1, 2, (.cons (.iff (.orr (.nt (.isi (.bw 0) [.tuple])) (.cmp .ne (.bt .len (.cons (.bw 0) .nil)) (.k (.int 2)))) (.cons .nv <|
    .nil) (.nil)) <|
    .cons (.iff (.orr (.nt (.isi (.ix (.bw 0) (.k (.int 0))) [.tuple])) (.nt (.isi (.ix (.bw 0) (.k (.int 1))) [.tuple]))) (.cons .nv <|
    .nil) (.nil)) <|
    .cons (.rt (.bt .all (.cons (.lc (.nm 1) (.ov (.bin .add (.ix (.bw 0) (.k (.int 0))) (.ix (.bw 0) (.k (.int 1))))) (.k (.bool true)) f_is_knot_e1 [1]) .nil))) <|
    .nil), []⟩
def df_is_knot : Dn := ⟨⟨("is_knot", none), "is_knot", "is_knot", L2.defArgs (top 9), L2.defBody (top 9), L2.defScope (top 9), [], []⟩, ["thing", "number"], ["thing"], f_is_knot⟩
def f_holds_parted_e1 : Ex := (.call nf_is_knot (.cons (.bw 2) .nil))
def f_holds_parted : Fn := ⟨2, 3, (.cons (.iff (.orr (.nt (.isi (.bw 1) [.list])) (.nt (.bt .all (.cons (.lc (.nm 2) (.ov (.bw 1)) (.k (.bool true)) f_holds_parted_e1 [2]) .nil)))) (.cons (.rt (.k (.bool false))) <|
    .nil) (.nil)) <|
    .cons (.rt (.cmp .eq (.bw 1) (.call nf_parted (.cons (.bw 0) .nil)))) <|
    .nil), []⟩
def df_holds_parted : Dn := ⟨⟨("holds_parted", none), "holds_parted", "holds_parted", L2.defArgs (top 10), L2.defBody (top 10), L2.defScope (top 10), [], []⟩, ["numbers", "thing", "one"], ["numbers", "thing"], f_holds_parted⟩
def f_law_pen : Fn := ⟨2, 3, (.cons (.as (.nm 2) (.k (.int 0))) <|
    .cons (.iff (.cmp .gt (.bt .len (.cons (.bw 0) .nil)) (.k (.int 0))) (.cons (.as (.nm 2) (.ix (.bw 0) (.bin .mod (.bw 1) (.bt .len (.cons (.bw 0) .nil))))) <|
    .nil) (.nil)) <|
    .cons (.iff (.an (.cmp .lt (.bw 1) (.bt .len (.cons (.bw 0) .nil))) (.cmp .ge (.bw 2) (.bin .pow (.k (.int 10)) (.k (.int 18))))) (.cons (.rt (.lst (.cons (.v 2) (.cons (.k (.int 0)) (.cons (.k (.int 0)) .nil))))) <|
    .nil) (.nil)) <|
    .cons (.rt (.lst (.cons (.k (.int 0)) (.cons (.bin .add (.bin .mod (.bw 2) (.k (.int 999999937))) (.bin .mul (.k (.int 70001)) (.bw 1))) (.cons (.k (.int 0)) .nil))))) <|
    .nil), [2]⟩
def df_law_pen : Dn := ⟨⟨("_law_pen", none), "_law_pen", "_law_pen", L2.defArgs (top 12), L2.defBody (top 12), L2.defScope (top 12), [], []⟩, ["_law_script", "_law_k", "_law_cell"], ["_law_script", "_law_k"], f_law_pen⟩
def f_law_draw : Fn := ⟨2, 4, (.cons (.iff (.cmp .gt (.ix (.bw 0) (.k (.int 0))) (.k (.int 0))) (.cons (.as (.nm 2) (.bin .mod (.ix (.bw 0) (.k (.int 0))) (.bw 1))) <|
    .cons (.sx 0 (.k (.int 0)) (.bin .fdiv (.ix (.bw 0) (.k (.int 0))) (.bw 1))) <|
    .cons (.rt (.mv 2)) <|
    .nil) (.nil)) <|
    .cons (.sx 0 (.k (.int 2)) (.bin .add (.ix (.bw 0) (.k (.int 2))) (.k (.int 1)))) <|
    .cons (.as (.nm 3) (.bin .mod (.bin .add (.bin .add (.bin .mul (.ix (.bw 0) (.k (.int 1))) (.k (.int 48271))) (.bin .mul (.ix (.bw 0) (.k (.int 2))) (.k (.int 39373)))) (.k (.int 11))) (.k (.int 2147483647)))) <|
    .cons (.as (.nm 3) (.bin .mod (.bin .mul (.bw 3) (.bin .add (.bin .mod (.bw 3) (.k (.int 65521))) (.ix (.bw 0) (.k (.int 2))))) (.k (.int 2147483629)))) <|
    .cons (.rt (.bin .mod (.bin .fdiv (.bw 3) (.k (.int 64))) (.bw 1))) <|
    .nil), [2, 3]⟩
def df_law_draw : Dn := ⟨⟨("_law_draw", none), "_law_draw", "_law_draw", L2.defArgs (top 13), L2.defBody (top 13), L2.defScope (top 13), [], []⟩, ["_law_pen_here", "_law_many", "_law_found", "_law_number_here"], ["_law_pen_here", "_law_many"], f_law_draw⟩
def f_law_number : Fn := ⟨1, 2, (.cons (.as (.nm 1) (.call nf_law_draw (.cons (.ln 0) (.cons (.k (.int 12)) .nil)))) <|
    .cons (.iff (.cmp .eq (.bw 1) (.k (.int 11))) (.cons (.rt (.bin .mul (.bin .add (.bin .pow (.k (.int 10)) (.k (.int 29))) (.call nf_law_draw (.cons (.ln 0) (.cons (.k (.int 9)) .nil)))) (.bin .sub (.k (.int 1)) (.bin .mul (.k (.int 2)) (.call nf_law_draw (.cons (.ln 0) (.cons (.k (.int 2)) .nil))))))) <|
    .nil) (.nil)) <|
    .cons (.iff (.cmp .gt (.bw 1) (.k (.int 8))) (.cons (.rt (.bin .sub (.call nf_law_draw (.cons (.ln 0) (.cons (.k (.int 2001)) .nil))) (.k (.int 1000)))) <|
    .nil) (.nil)) <|
    .cons (.rt (.bin .sub (.call nf_law_draw (.cons (.ln 0) (.cons (.k (.int 7)) .nil))) (.k (.int 3)))) <|
    .nil), [1]⟩
def df_law_number : Dn := ⟨⟨("_law_number", none), "_law_number", "_law_number", L2.defArgs (top 14), L2.defBody (top 14), L2.defScope (top 14), [], []⟩, ["_law_pen_here", "_law_way"], ["_law_pen_here"], f_law_number⟩
def f_law_row_e1 : Ex := (.call nf_law_number (.cons (.ln 0) .nil))
def f_law_row : Fn := ⟨2, 3, (.cons (.rt (.lc (.nm 2) (.rg (.cons (.bin .add (.k (.int 1)) (.call nf_law_draw (.cons (.ln 0) (.cons (.bw 1) .nil)))) .nil)) (.k (.bool true)) f_law_row_e1 [2])) <|
    .nil), []⟩
def df_law_row : Dn := ⟨⟨("_law_row", none), "_law_row", "_law_row", L2.defArgs (top 15), L2.defBody (top 15), L2.defScope (top 15), [], []⟩, ["_law_pen_here", "_law_most", "_law_k"], ["_law_pen_here", "_law_most"], f_law_row⟩
def f_law_halves_c1 : Ex := (.cmp .ne (.bw 1) (.lst .nil))
def f_law_halves_b1 : Ss := (.cons (.as (.tup (.nm 3) (.tup (.nm 4) .tupn)) (.mu .pop 1 .nil)) <|
    .cons (.ex (.mu .append 2 (.cons (.tup (.cons (.v 3) (.cons (.v 4) .nil))) .nil))) <|
    .cons (.iff (.cmp .lt (.bw 3) (.bw 4)) (.cons (.as (.nm 5) (.bin .fdiv (.bin .add (.bw 3) (.bw 4)) (.k (.int 2)))) <|
    .cons (.ex (.mu .extend 1 (.cons (.lst (.cons (.tup (.cons (.v 3) (.cons (.v 5) .nil))) (.cons (.tup (.cons (.bin .add (.bw 5) (.k (.int 1))) (.cons (.v 4) .nil))) .nil))) .nil))) <|
    .nil) (.nil)) <|
    .nil)
@[simp] theorem st_f_law_halves_b1 : f_law_halves_b1.st = [3, 4, 5] := rfl
def f_law_halves : Fn := ⟨1, 6, (.cons (.as (.nm 1) (.lst (.cons (.tup (.cons (.k (.int 0)) (.cons (.bin .sub (.bw 0) (.k (.int 1))) .nil))) .nil))) <|
    .cons (.as (.nm 2) (.lst .nil)) <|
    .cons (.wh f_law_halves_c1 f_law_halves_b1 [3, 4, 5]) <|
    .cons (.rt (.bt .sorted (.cons (.bw 2) .nil))) <|
    .nil), [1, 2, 3, 4, 5]⟩
def df_law_halves : Dn := ⟨⟨("_law_halves", none), "_law_halves", "_law_halves", L2.defArgs (top 17), L2.defBody (top 17), L2.defScope (top 17), [], []⟩, ["_law_size", "_law_left", "_law_found", "_law_first", "_law_last", "_law_middle"], ["_law_size"], f_law_halves⟩
def f_law_worths_b1 : Ss := (.cons (.iff (.orr (.cmp .eq (.bw 1) (.lst .nil)) (.cmp .ne (.ix (.bw 1) (.neg (.k (.int 1)))) (.bw 2))) (.cons (.ex (.mu .append 1 (.cons (.v 2) .nil))) <|
    .nil) (.nil)) <|
    .nil)
@[simp] theorem st_f_law_worths_b1 : f_law_worths_b1.st = [] := rfl
def f_law_worths : Fn := ⟨1, 3, (.cons (.as (.nm 1) (.lst .nil)) <|
    .cons (.fo (.nm 2) (.ov (.bt .sorted (.cons (.bw 0) .nil))) f_law_worths_b1 [2]) <|
    .cons (.rt (.mv 1)) <|
    .nil), [1, 2]⟩
def df_law_worths : Dn := ⟨⟨("_law_worths", none), "_law_worths", "_law_worths", L2.defArgs (top 18), L2.defBody (top 18), L2.defScope (top 18), [], []⟩, ["_law_numbers", "_law_found", "_law_number_here"], ["_law_numbers"], f_law_worths⟩
def f_law_parting_i1 : Ex := (.ch .le .le (.ix (.bw 1) (.bw 3)) (.bw 6) (.ix (.bw 1) (.bw 4)))
def f_law_parting_e1 : Ex := (.v 6)
def f_law_parting_e2 : Ex := (.bt .int1 (.cons (.cmp .gt (.bw 6) (.ix (.bw 1) (.bin .fdiv (.bin .add (.bw 3) (.bw 4)) (.k (.int 2))))) .nil))
def f_law_parting_b1 : Ss := (.cons (.iff (.cmp .lt (.bw 3) (.bw 4)) (.cons (.as (.nm 5) (.lc (.nm 6) (.ov (.bw 0)) f_law_parting_i1 f_law_parting_e1 [6])) <|
    .cons (.ex (.mu .append 2 (.cons (.tup (.cons (.tup (.cons (.v 3) (.cons (.v 4) .nil))) (.cons (.bt .tuple1 (.cons (.lc (.nm 6) (.ov (.bw 5)) (.k (.bool true)) f_law_parting_e2 [6]) .nil)) .nil))) .nil))) <|
    .nil) (.nil)) <|
    .nil)
@[simp] theorem st_f_law_parting_b1 : f_law_parting_b1.st = [5] := rfl
def f_law_parting : Fn := ⟨1, 7, (.cons (.as (.nm 1) (.call nf_law_worths (.cons (.bw 0) .nil))) <|
    .cons (.as (.nm 2) (.lst .nil)) <|
    .cons (.fo (.tup (.nm 3) (.tup (.nm 4) .tupn)) (.ov (.call nf_law_halves (.cons (.bt .len (.cons (.bw 1) .nil)) .nil))) f_law_parting_b1 [3, 4, 5, 6]) <|
    .cons (.rt (.mv 2)) <|
    .nil), [1, 2, 3, 4, 5]⟩
def df_law_parting : Dn := ⟨⟨("_law_parting", none), "_law_parting", "_law_parting", L2.defArgs (top 19), L2.defBody (top 19), L2.defScope (top 19), [], []⟩, ["_law_numbers", "_law_some", "_law_found", "_law_first", "_law_last", "_law_here", "_law_number_here"], ["_law_numbers"], f_law_parting⟩
def f_law_right_b1 : Ss := (.cons (.as (.nm 3) (.call nf_worths (.cons (.bw 1) .nil))) <|
    .cons (.as (.nm 4) (.call nf_parted (.cons (.bw 1) .nil))) <|
    .cons (.iff (.orr (.cmp .ne (.bt .repr (.cons (.bw 3) .nil)) (.bt .repr (.cons (.call nf_law_worths (.cons (.bw 0) .nil)) .nil))) (.cmp .ne (.bt .repr (.cons (.bw 4) .nil)) (.bt .repr (.cons (.call nf_law_parting (.cons (.bw 0) .nil)) .nil)))) (.cons (.rt (.k (.bool false))) <|
    .nil) (.nil)) <|
    .cons (.iff (.cmp .isnot (.call nf_holds_parted (.cons (.bw 1) (.cons (.bw 4) .nil))) (.k (.bool true))) (.cons (.rt (.k (.bool false))) <|
    .nil) (.nil)) <|
    .cons (.ex (.mu .append 3 (.cons (.k (.int 0)) .nil))) <|
    .cons (.ex (.mu .clear 4 .nil)) <|
    .nil)
@[simp] theorem st_f_law_right_b1 : f_law_right_b1.st = [3, 4] := rfl
def f_law_right : Fn := ⟨1, 5, (.cons (.as (.nm 1) (.bt .list1 (.cons (.bw 0) .nil))) <|
    .cons (.fo (.nm 2) (.rg (.cons (.k (.int 2)) .nil)) f_law_right_b1 [2, 3, 4]) <|
    .cons (.iff (.cmp .ne (.bw 1) (.bw 0)) (.cons (.rt (.k (.bool false))) <|
    .nil) (.nil)) <|
    .cons (.sx 1 (.neg (.k (.int 1))) (.bin .add (.ix (.bw 0) (.k (.int 0))) (.k (.int 1)))) <|
    .cons (.ex (.mu .reverse 1 .nil)) <|
    .cons (.rt (.an (.cmp .eq (.bt .repr (.cons (.call nf_worths (.cons (.bw 1) .nil)) .nil)) (.bt .repr (.cons (.call nf_law_worths (.cons (.bw 1) .nil)) .nil))) (.cmp .eq (.bt .repr (.cons (.call nf_parted (.cons (.bw 1) .nil)) .nil)) (.bt .repr (.cons (.call nf_law_parting (.cons (.bw 1) .nil)) .nil))))) <|
    .nil), [1, 2, 3, 4]⟩
def df_law_right : Dn := ⟨⟨("_law_right", none), "_law_right", "_law_right", L2.defArgs (top 20), L2.defBody (top 20), L2.defScope (top 20), [], []⟩, ["_law_numbers", "_law_handed", "_law_turn", "_law_some", "_law_found"], ["_law_numbers"], f_law_right⟩
def f_law_e1 : Ex := (.bin .add (.bin .mul (.bw 6) (.k (.int 7))) (.bw 5))
def f_law_b1 : Ss := (.cons (.as (.nm 2) (.call nf_law_pen (.cons (.bw 0) (.cons (.bw 1) .nil)))) <|
    .cons (.as (.nm 3) (.ix (.lst (.cons (.k (.int 14)) (.cons (.k (.int 120)) .nil))) (.bt .int1 (.cons (.an (.cmp .eq (.call nf_law_draw (.cons (.ln 2) (.cons (.k (.int 8)) .nil))) (.k (.int 7))) (.cmp .eq (.bw 1) (.k (.int 0)))) .nil)))) <|
    .cons (.as (.nm 4) (.call nf_law_row (.cons (.ln 2) (.cons (.bw 3) .nil)))) <|
    .cons (.iff (.cmp .eq (.call nf_law_draw (.cons (.ln 2) (.cons (.k (.int 4)) .nil))) (.k (.int 0))) (.cons (.as (.nm 4) (.lc (.tup (.nm 5) (.tup (.nm 6) .tupn)) (.en (.bw 4)) (.k (.bool true)) f_law_e1 [5, 6])) <|
    .nil) (.nil)) <|
    .cons (.iff (.nt (.call nf_law_right (.cons (.bw 4) .nil))) (.cons (.rt (.k (.bool false))) <|
    .nil) (.nil)) <|
    .nil)
@[simp] theorem st_f_law_b1 : f_law_b1.st = [2, 3, 4, 4] := rfl
def f_law : Fn := ⟨1, 7, (.cons (.fo (.nm 1) (.rg (.cons (.bt .max2 (.cons (.k (.int 3)) (.cons (.bt .min2 (.cons (.k (.int 6)) (.cons (.bt .len (.cons (.bw 0) .nil)) .nil))) .nil))) .nil)) f_law_b1 [1, 2, 3, 4, 5, 6]) <|
    .cons (.rt (.k (.bool true))) <|
    .nil), [1, 2, 3, 4]⟩
def df_law : Dn := ⟨⟨("law", none), "law", "law", L2.defArgs (top 21), L2.defBody (top 21), L2.defScope (top 21), [], []⟩, ["_law_script", "_law_k", "_law_pen_here", "_law_most", "_law_numbers", "_law_at", "_law_number_here"], ["_law_script"], f_law⟩
def prog : Pg where
  ds := [df_is_whole, df_halved, df_stretches, df_worths, df_flags_of, df_parted, df_is_knot, df_holds_parted, df_law_pen, df_law_draw, df_law_number, df_law_row, df_law_halves, df_law_worths, df_law_parting, df_law_right, df_law]
  cons := []
  blts := ["all", "bool", "dict", "enumerate", "int", "isinstance", "len", "list", "max", "min", "range", "repr", "set", "sorted", "tuple"]
theorem bf_is_whole : df_is_whole.binds := fun _ _ _ _ _ _ us hl => match us, hl with | [_], _ => rfl
theorem of_is_whole : df_is_whole.ok prog.G = true := by decide +kernel
theorem bf_halved : df_halved.binds := fun _ _ _ _ _ _ us hl => match us, hl with | [_, _], _ => rfl
theorem of_halved : df_halved.ok prog.G = true := by decide +kernel
theorem bf_stretches : df_stretches.binds := fun _ _ _ _ _ _ us hl => match us, hl with | [_], _ => rfl
theorem of_stretches : df_stretches.ok prog.G = true := by decide +kernel
theorem bf_worths : df_worths.binds := fun _ _ _ _ _ _ us hl => match us, hl with | [_], _ => rfl
theorem of_worths : df_worths.ok prog.G = true := by decide +kernel
theorem bf_flags_of : df_flags_of.binds := fun _ _ _ _ _ _ us hl => match us, hl with | [_, _, _], _ => rfl
theorem of_flags_of : df_flags_of.ok prog.G = true := by decide +kernel
theorem bf_parted : df_parted.binds := fun _ _ _ _ _ _ us hl => match us, hl with | [_], _ => rfl
theorem of_parted : df_parted.ok prog.G = true := by decide +kernel
theorem bf_is_knot : df_is_knot.binds := fun _ _ _ _ _ _ us hl => match us, hl with | [_], _ => rfl
theorem of_is_knot : df_is_knot.ok prog.G = true := by decide +kernel
theorem bf_holds_parted : df_holds_parted.binds := fun _ _ _ _ _ _ us hl => match us, hl with | [_, _], _ => rfl
theorem of_holds_parted : df_holds_parted.ok prog.G = true := by decide +kernel
theorem bf_law_pen : df_law_pen.binds := fun _ _ _ _ _ _ us hl => match us, hl with | [_, _], _ => rfl
theorem of_law_pen : df_law_pen.ok prog.G = true := by decide +kernel
theorem bf_law_draw : df_law_draw.binds := fun _ _ _ _ _ _ us hl => match us, hl with | [_, _], _ => rfl
theorem of_law_draw : df_law_draw.ok prog.G = true := by decide +kernel
theorem bf_law_number : df_law_number.binds := fun _ _ _ _ _ _ us hl => match us, hl with | [_], _ => rfl
theorem of_law_number : df_law_number.ok prog.G = true := by decide +kernel
theorem bf_law_row : df_law_row.binds := fun _ _ _ _ _ _ us hl => match us, hl with | [_, _], _ => rfl
theorem of_law_row : df_law_row.ok prog.G = true := by decide +kernel
theorem bf_law_halves : df_law_halves.binds := fun _ _ _ _ _ _ us hl => match us, hl with | [_], _ => rfl
theorem of_law_halves : df_law_halves.ok prog.G = true := by decide +kernel
theorem bf_law_worths : df_law_worths.binds := fun _ _ _ _ _ _ us hl => match us, hl with | [_], _ => rfl
theorem of_law_worths : df_law_worths.ok prog.G = true := by decide +kernel
theorem bf_law_parting : df_law_parting.binds := fun _ _ _ _ _ _ us hl => match us, hl with | [_], _ => rfl
theorem of_law_parting : df_law_parting.ok prog.G = true := by decide +kernel
theorem bf_law_right : df_law_right.binds := fun _ _ _ _ _ _ us hl => match us, hl with | [_], _ => rfl
theorem of_law_right : df_law_right.ok prog.G = true := by decide +kernel
theorem bf_law : df_law.binds := fun _ _ _ _ _ _ us hl => match us, hl with | [_], _ => rfl
theorem of_law : df_law.ok prog.G = true := by decide +kernel
theorem rf_is_whole (n : Nat) (ws : List Sl) : callN prog.P (n + 1) nf_is_whole ws = runFn (callN prog.P n) f_is_whole ws := rfl
theorem rf_halved (n : Nat) (ws : List Sl) : callN prog.P (n + 1) nf_halved ws = runFn (callN prog.P n) f_halved ws := rfl
theorem rf_stretches (n : Nat) (ws : List Sl) : callN prog.P (n + 1) nf_stretches ws = runFn (callN prog.P n) f_stretches ws := rfl
theorem rf_worths (n : Nat) (ws : List Sl) : callN prog.P (n + 1) nf_worths ws = runFn (callN prog.P n) f_worths ws := rfl
theorem rf_flags_of (n : Nat) (ws : List Sl) : callN prog.P (n + 1) nf_flags_of ws = runFn (callN prog.P n) f_flags_of ws := rfl
theorem rf_parted (n : Nat) (ws : List Sl) : callN prog.P (n + 1) nf_parted ws = runFn (callN prog.P n) f_parted ws := rfl
theorem rf_is_knot (n : Nat) (ws : List Sl) : callN prog.P (n + 1) nf_is_knot ws = runFn (callN prog.P n) f_is_knot ws := rfl
theorem rf_holds_parted (n : Nat) (ws : List Sl) : callN prog.P (n + 1) nf_holds_parted ws = runFn (callN prog.P n) f_holds_parted ws := rfl
theorem rf_law_pen (n : Nat) (ws : List Sl) : callN prog.P (n + 1) nf_law_pen ws = runFn (callN prog.P n) f_law_pen ws := rfl
theorem rf_law_draw (n : Nat) (ws : List Sl) : callN prog.P (n + 1) nf_law_draw ws = runFn (callN prog.P n) f_law_draw ws := rfl
theorem rf_law_number (n : Nat) (ws : List Sl) : callN prog.P (n + 1) nf_law_number ws = runFn (callN prog.P n) f_law_number ws := rfl
theorem rf_law_row (n : Nat) (ws : List Sl) : callN prog.P (n + 1) nf_law_row ws = runFn (callN prog.P n) f_law_row ws := rfl
theorem rf_law_halves (n : Nat) (ws : List Sl) : callN prog.P (n + 1) nf_law_halves ws = runFn (callN prog.P n) f_law_halves ws := rfl
theorem rf_law_worths (n : Nat) (ws : List Sl) : callN prog.P (n + 1) nf_law_worths ws = runFn (callN prog.P n) f_law_worths ws := rfl
theorem rf_law_parting (n : Nat) (ws : List Sl) : callN prog.P (n + 1) nf_law_parting ws = runFn (callN prog.P n) f_law_parting ws := rfl
theorem rf_law_right (n : Nat) (ws : List Sl) : callN prog.P (n + 1) nf_law_right ws = runFn (callN prog.P n) f_law_right ws := rfl
theorem rf_law (n : Nat) (ws : List Sl) : callN prog.P (n + 1) nf_law ws = runFn (callN prog.P n) f_law ws := rfl
theorem prog_ok : prog.Ok := by
  refine ⟨fun d hd => ?_, fun d hd => ?_, by decide +kernel⟩
  · simp only [prog, List.mem_cons, List.not_mem_nil, or_false] at hd
    rcases hd with rfl | rfl | rfl | rfl | rfl | rfl | rfl | rfl | rfl | rfl | rfl | rfl | rfl | rfl | rfl | rfl | rfl
    · exact of_is_whole
    · exact of_halved
    · exact of_stretches
    · exact of_worths
    · exact of_flags_of
    · exact of_parted
    · exact of_is_knot
    · exact of_holds_parted
    · exact of_law_pen
    · exact of_law_draw
    · exact of_law_number
    · exact of_law_row
    · exact of_law_halves
    · exact of_law_worths
    · exact of_law_parting
    · exact of_law_right
    · exact of_law
  · simp only [prog, List.mem_cons, List.not_mem_nil, or_false] at hd
    rcases hd with rfl | rfl | rfl | rfl | rfl | rfl | rfl | rfl | rfl | rfl | rfl | rfl | rfl | rfl | rfl | rfl | rfl
    · exact bf_is_whole
    · exact bf_halved
    · exact bf_stretches
    · exact bf_worths
    · exact bf_flags_of
    · exact bf_parted
    · exact bf_is_knot
    · exact bf_holds_parted
    · exact bf_law_pen
    · exact bf_law_draw
    · exact bf_law_number
    · exact bf_law_row
    · exact bf_law_halves
    · exact bf_law_worths
    · exact bf_law_parting
    · exact bf_law_right
    · exact bf_law
end Lw

set_option Elab.async false
set_option linter.all false
set_option maxRecDepth 100000
set_option autoImplicit false
set_option maxHeartbeats 0
/-! typed functions beside the defs, and that the runs do what they tell (printed by g2.py) -/
namespace Lw
open PySem PySem.W Bx
def s_law_pen (a_script : (List Int)) (a_k : Int) : Option (Int × Int × Int) :=
  
  
  ((if (decide ((0 : Int) < ((a_script).length : Int))) = true then (modS a_k ((a_script).length : Int)).bind fun rem_1 => (atS a_script rem_1).bind fun at_1 => 
  some at_1 else some (0 : Int) : Option (Int))).bind fun j_1 =>
  
  if ((decide (a_k < ((a_script).length : Int))) && (decide ((pw 10 18) ≤ j_1))) = true then 
  some (j_1, (0 : Int), (0 : Int))
  else 
  some ((0 : Int), ((j_1 % (999999937 : Int)) + ((70001 : Int) * a_k)), (0 : Int))
theorem R_law_pen (m : Nat) (hm : 1 ≤ m) (a_script : (List Int)) (a_k : Int) (v : (Int × Int × Int)) (h : s_law_pen a_script a_k = some v) : callN prog.P m nf_law_pen [.fr ((eL PyData.int) a_script), .fr (PyData.int a_k)] = some (.ow ((eH3 PyData.int PyData.int PyData.int) v), [.no, .no]) := by
  obtain ⟨m, rfl⟩ : ∃ k, m = k + 1 := ⟨m - 1, by omega⟩
  rw [rf_law_pen]
  refine run_okV (W := fun (v : (Int × Int × Int)) => .ow ((eH3 PyData.int PyData.int PyData.int) v)) (F := fun (v : (Int × Int × Int)) => [.no, .no]) (v := v) rfl rfl rfl ?_
  refine k_env (r2 := [.fr ((eL PyData.int) a_script), .fr (PyData.int a_k), .no]) rfl ?_
  unfold s_law_pen at h
  refine k_st (r1 := [.fr ((eL PyData.int) a_script), .fr (PyData.int a_k), .fr (PyData.int (0 : Int))]) ?_ ?_
  · exact t_as x_k rfl
  obtain ⟨j_1, h_j_1, h⟩ := bnd h
  refine k_ifJ (env := fun (z : Unit) => [.fr ((eL PyData.int) a_script), .fr (PyData.int a_k), .fr (PyData.int j_1)]) (x_cmp (x_bt (y_cons (x_bw rfl) y_nil) rfl (by exact (f_lenL PyData.int a_script))) x_k rfl rfl rfl) (fun hb_1 => ?_) (fun hb_1 => ?_) (fun z => ?_)
  · replace h := iteT hb_1 h_j_1
    clear h_j_1
    obtain ⟨rem_1, h_rem_1, h⟩ := bnd h
    obtain ⟨at_1, h_at_1, h⟩ := bnd h
    refine k_st (r1 := [.fr ((eL PyData.int) a_script), .fr (PyData.int a_k), .fr (PyData.int at_1)]) ?_ ?_
    · exact t_as (x_ix (x_bw rfl) (x_bin (x_bw rfl) (x_bt (y_cons (x_bw rfl) y_nil) rfl (by exact (f_lenL PyData.int a_script))) rfl rfl (by exact (b_mod h_rem_1))) rfl rfl (g_ixL (e := PyData.int) h_at_1)) rfl
    refine k_pop ?_
    cases h
    exact k_nil ⟨(), rfl⟩
  · replace h := iteF hb_1 h_j_1
    clear h_j_1
    refine k_pop ?_
    cases h
    exact k_nil ⟨(), rfl⟩
  refine k_if (x_an (x_cmp (x_bw rfl) (x_bt (y_cons (x_bw rfl) y_nil) rfl (by exact (f_lenL PyData.int a_script))) rfl rfl rfl) (fun _ => (x_cmp (x_bw rfl) (x_bin x_k x_k rfl rfl (by exact (b_powk (by decide)))) rfl rfl rfl))) (fun hb_2 => ?_) (fun hb_2 => ?_)
  · replace h := iteT hb_2 h
    cases h
    exact k_rto (x_lst (y_cons (x_v rfl) (y_cons x_k (y_cons x_k y_nil))) rfl (by exact sz_3)) (fin_rt rfl rfl (by exact Nat.le_of_ble_eq_true rfl))
  · replace h := iteF hb_2 h
    refine k_pop ?_
    cases h
    exact k_rto (x_lst (y_cons x_k (y_cons (x_bin (x_bin (x_bw rfl) x_k rfl rfl (by exact (b_modk (by decide)))) (x_bin x_k (x_bw rfl) rfl rfl (by exact (b_mull (by decide)))) rfl rfl rfl) (y_cons x_k y_nil))) rfl (by exact sz_3)) (fin_rt rfl rfl (by exact Nat.le_of_ble_eq_true rfl))
def s_law_draw (a_pen_here : (Int × Int × Int)) (a_many : Int) : Option (Int × (Int × Int × Int)) :=
  
  if (decide ((0 : Int) < a_pen_here.1)) = true then (modS a_pen_here.1 a_many).bind fun rem_1 => 
  (fdivS a_pen_here.1 a_many).bind fun quo_1 => 
  
  some (rem_1, (quo_1, a_pen_here.2.1, a_pen_here.2.2))
  else 
  (some ((((a_pen_here.2.1 * (48271 : Int)) + ((a_pen_here.2.2 + (1 : Int)) * (39373 : Int))) + (11 : Int)) % (2147483647 : Int))).bind fun number_here_1 => 
  (mulS number_here_1 ((number_here_1 % (65521 : Int)) + (a_pen_here.2.2 + (1 : Int)))).bind fun prod_1 => (some (prod_1 % (2147483629 : Int))).bind fun number_here_2 => 
  (modS (number_here_2 / (64 : Int)) a_many).bind fun rem_2 => 
  some (rem_2, (a_pen_here.1, a_pen_here.2.1, (a_pen_here.2.2 + (1 : Int))))
theorem R_law_draw (m : Nat) (hm : 1 ≤ m) (a_pen_here : (Int × Int × Int)) (a_many : Int) (v : (Int × (Int × Int × Int))) (h : s_law_draw a_pen_here a_many = some v) : callN prog.P m nf_law_draw [.ow ((eH3 PyData.int PyData.int PyData.int) a_pen_here), .fr (PyData.int a_many)] = some (.fr (PyData.int v.1), [.ow ((eH3 PyData.int PyData.int PyData.int) v.2), .no]) := by
  obtain ⟨m, rfl⟩ : ∃ k, m = k + 1 := ⟨m - 1, by omega⟩
  rw [rf_law_draw]
  refine run_okV (W := fun (v : (Int × (Int × Int × Int))) => .fr (PyData.int v.1)) (F := fun (v : (Int × (Int × Int × Int))) => [.ow ((eH3 PyData.int PyData.int PyData.int) v.2), .no]) (v := v) rfl rfl rfl ?_
  refine k_env (r2 := [.ow ((eH3 PyData.int PyData.int PyData.int) a_pen_here), .fr (PyData.int a_many), .no, .no]) rfl ?_
  unfold s_law_draw at h
  refine k_if (x_cmp (x_ix (x_bwo rfl) x_k rfl rfl rfl) x_k rfl rfl rfl) (fun hb_1 => ?_) (fun hb_1 => ?_)
  · replace h := iteT hb_1 h
    obtain ⟨rem_1, h_rem_1, h⟩ := bnd h
    refine k_st (r1 := [.ow ((eH3 PyData.int PyData.int PyData.int) a_pen_here), .fr (PyData.int a_many), .fr (PyData.int rem_1), .no]) ?_ ?_
    · exact t_as (x_bin (x_ix (x_bwo rfl) x_k rfl rfl rfl) (x_bw rfl) rfl rfl (by exact (b_mod h_rem_1))) rfl
    obtain ⟨quo_1, h_quo_1, h⟩ := bnd h
    refine k_st (r1 := [.ow ((eH3 PyData.int PyData.int PyData.int) (quo_1, a_pen_here.2.1, a_pen_here.2.2)), .fr (PyData.int a_many), .fr (PyData.int rem_1), .no]) ?_ ?_
    · exact t_sx (x_bin (x_ix (x_bwo rfl) x_k rfl rfl rfl) (x_bw rfl) rfl rfl (by exact (b_fdiv h_quo_1))) rfl rfl x_k rfl rfl rfl
    cases h
    exact k_rt (x_mv rfl) (fin_rt rfl rfl (by exact Nat.le_of_ble_eq_true rfl))
  · replace h := iteF hb_1 h
    refine k_pop ?_
    refine k_st (r1 := [.ow ((eH3 PyData.int PyData.int PyData.int) (a_pen_here.1, a_pen_here.2.1, (a_pen_here.2.2 + (1 : Int)))), .fr (PyData.int a_many), .no, .no]) ?_ ?_
    · exact t_sx (x_bin (x_ix (x_bwo rfl) x_k rfl rfl rfl) x_k rfl rfl rfl) rfl rfl x_k rfl rfl rfl
    obtain ⟨number_here_1, h_number_here_1, h⟩ := bnd h
    refine k_st (r1 := [.ow ((eH3 PyData.int PyData.int PyData.int) (a_pen_here.1, a_pen_here.2.1, (a_pen_here.2.2 + (1 : Int)))), .fr (PyData.int a_many), .no, .fr (PyData.int number_here_1)]) ?_ ?_
    · exact t_as (x_letF (e := PyData.int) h_number_here_1 (x_bin (x_bin (x_bin (x_bin (x_ix (x_bwo rfl) x_k rfl rfl rfl) x_k rfl rfl (by exact (b_mulr (by decide)))) (x_bin (x_ix (x_bwo rfl) x_k rfl rfl rfl) x_k rfl rfl (by exact (b_mulr (by decide)))) rfl rfl rfl) x_k rfl rfl rfl) x_k rfl rfl (by exact (b_modk (by decide))))) rfl
    obtain ⟨prod_1, h_prod_1, h⟩ := bnd h
    obtain ⟨number_here_2, h_number_here_2, h⟩ := bnd h
    refine k_st (r1 := [.ow ((eH3 PyData.int PyData.int PyData.int) (a_pen_here.1, a_pen_here.2.1, (a_pen_here.2.2 + (1 : Int)))), .fr (PyData.int a_many), .no, .fr (PyData.int number_here_2)]) ?_ ?_
    · exact t_as (x_letF (e := PyData.int) h_number_here_2 (x_bin (x_bin (x_bw rfl) (x_bin (x_bin (x_bw rfl) x_k rfl rfl (by exact (b_modk (by decide)))) (x_ix (x_bwo rfl) x_k rfl rfl rfl) rfl rfl rfl) rfl rfl (by exact (b_mul h_prod_1))) x_k rfl rfl (by exact (b_modk (by decide))))) rfl
    obtain ⟨rem_2, h_rem_2, h⟩ := bnd h
    cases h
    exact k_rt (x_bin (x_bin (x_bw rfl) x_k rfl rfl (by exact (b_fdivk (by decide)))) (x_bw rfl) rfl rfl (by exact (b_mod h_rem_2))) (fin_rt rfl rfl (by exact Nat.le_of_ble_eq_true rfl))
def s_law_number (a_pen_here : (Int × Int × Int)) : Option (Int × (Int × Int × Int)) :=
  (s_law_draw a_pen_here (12 : Int)).bind fun draw_1 => 
  
  if (decide (draw_1.1 = (11 : Int))) = true then (s_law_draw draw_1.2 (9 : Int)).bind fun draw_2 => (s_law_draw draw_2.2 (2 : Int)).bind fun draw_3 => (mulS ((pw 10 29) + draw_2.1) ((1 : Int) - ((2 : Int) * draw_3.1))).bind fun prod_1 => 
  some (prod_1, draw_3.2)
  else 
  if (decide ((8 : Int) < draw_1.1)) = true then (s_law_draw draw_1.2 (2001 : Int)).bind fun draw_4 => 
  some ((draw_4.1 - (1000 : Int)), draw_4.2)
  else (s_law_draw draw_1.2 (7 : Int)).bind fun draw_5 => 
  some ((draw_5.1 - (3 : Int)), draw_5.2)
theorem R_law_number (m : Nat) (hm : 2 ≤ m) (a_pen_here : (Int × Int × Int)) (v : (Int × (Int × Int × Int))) (h : s_law_number a_pen_here = some v) : callN prog.P m nf_law_number [.ow ((eH3 PyData.int PyData.int PyData.int) a_pen_here)] = some (.fr (PyData.int v.1), [.ow ((eH3 PyData.int PyData.int PyData.int) v.2)]) := by
  obtain ⟨m, rfl⟩ : ∃ k, m = k + 1 := ⟨m - 1, by omega⟩
  rw [rf_law_number]
  refine run_okV (W := fun (v : (Int × (Int × Int × Int))) => .fr (PyData.int v.1)) (F := fun (v : (Int × (Int × Int × Int))) => [.ow ((eH3 PyData.int PyData.int PyData.int) v.2)]) (v := v) rfl rfl rfl ?_
  refine k_env (r2 := [.ow ((eH3 PyData.int PyData.int PyData.int) a_pen_here), .no]) rfl ?_
  unfold s_law_number at h
  obtain ⟨draw_1, h_draw_1, h⟩ := bnd h
  refine k_st (r1 := [.ow ((eH3 PyData.int PyData.int PyData.int) draw_1.2), .fr (PyData.int draw_1.1)]) ?_ ?_
  · exact t_as (x_call [.ow ((eH3 PyData.int PyData.int PyData.int) draw_1.2), .no] (y_cons (x_ln rfl) (y_cons x_k y_nil)) rfl rfl (R_law_draw m (by omega) _ _ _ h_draw_1) rfl (by rfl) (by rfl)) rfl
  refine k_if (x_cmp (x_bw rfl) x_k rfl rfl (by exact (c_eq eqe_int (by decide) draw_1.1 (11 : Int)))) (fun hb_1 => ?_) (fun hb_1 => ?_)
  · replace h := iteT hb_1 h
    obtain ⟨draw_2, h_draw_2, h⟩ := bnd h
    obtain ⟨draw_3, h_draw_3, h⟩ := bnd h
    obtain ⟨prod_1, h_prod_1, h⟩ := bnd h
    cases h
    exact k_rt (x_bin (x_bin (x_bin x_k x_k rfl rfl (by exact (b_powk (by decide)))) (x_call [.ow ((eH3 PyData.int PyData.int PyData.int) draw_2.2), .fr (PyData.int draw_1.1)] (y_cons (x_ln rfl) (y_cons x_k y_nil)) rfl rfl (R_law_draw m (by omega) _ _ _ h_draw_2) rfl (by rfl) (by rfl)) rfl rfl rfl) (x_bin x_k (x_bin x_k (x_call [.ow ((eH3 PyData.int PyData.int PyData.int) draw_3.2), .fr (PyData.int draw_1.1)] (y_cons (x_ln rfl) (y_cons x_k y_nil)) rfl rfl (R_law_draw m (by omega) _ _ _ h_draw_3) rfl (by rfl) (by rfl)) rfl rfl (by exact (b_mull (by decide)))) rfl rfl rfl) rfl rfl (by exact (b_mul h_prod_1))) (fin_rt rfl rfl (by exact Nat.le_of_ble_eq_true rfl))
  · replace h := iteF hb_1 h
    refine k_pop ?_
    refine k_if (x_cmp (x_bw rfl) x_k rfl rfl rfl) (fun hb_2 => ?_) (fun hb_2 => ?_)
    · replace h := iteT hb_2 h
      obtain ⟨draw_4, h_draw_4, h⟩ := bnd h
      cases h
      exact k_rt (x_bin (x_call [.ow ((eH3 PyData.int PyData.int PyData.int) draw_4.2), .fr (PyData.int draw_1.1)] (y_cons (x_ln rfl) (y_cons x_k y_nil)) rfl rfl (R_law_draw m (by omega) _ _ _ h_draw_4) rfl (by rfl) (by rfl)) x_k rfl rfl rfl) (fin_rt rfl rfl (by exact Nat.le_of_ble_eq_true rfl))
    · replace h := iteF hb_2 h
      refine k_pop ?_
      obtain ⟨draw_5, h_draw_5, h⟩ := bnd h
      cases h
      exact k_rt (x_bin (x_call [.ow ((eH3 PyData.int PyData.int PyData.int) draw_5.2), .fr (PyData.int draw_1.1)] (y_cons (x_ln rfl) (y_cons x_k y_nil)) rfl rfl (R_law_draw m (by omega) _ _ _ h_draw_5) rfl (by rfl) (by rfl)) x_k rfl rfl rfl) (fin_rt rfl rfl (by exact Nat.le_of_ble_eq_true rfl))
def s_law_row (a_pen_here : (Int × Int × Int)) (a_most : Int) : Option ((List Int) × (Int × Int × Int)) :=
  (s_law_draw a_pen_here a_most).bind fun draw_1 => (rgS ((1 : Int) + draw_1.1)).bind fun rg_1 => (mapT (fun (s_1 : (Int × Int × Int)) (a_1 : Int) => (s_law_number s_1).bind fun number_1 => some (number_1.1, number_1.2)) draw_1.2 rg_1).bind fun l_1 => 
  some (l_1.1, l_1.2)
theorem R_law_row (m : Nat) (hm : 3 ≤ m) (a_pen_here : (Int × Int × Int)) (a_most : Int) (v : ((List Int) × (Int × Int × Int))) (h : s_law_row a_pen_here a_most = some v) : callN prog.P m nf_law_row [.ow ((eH3 PyData.int PyData.int PyData.int) a_pen_here), .fr (PyData.int a_most)] = some (.ow ((eL PyData.int) v.1), [.ow ((eH3 PyData.int PyData.int PyData.int) v.2), .no]) := by
  obtain ⟨m, rfl⟩ : ∃ k, m = k + 1 := ⟨m - 1, by omega⟩
  rw [rf_law_row]
  refine run_okV (W := fun (v : ((List Int) × (Int × Int × Int))) => .ow ((eL PyData.int) v.1)) (F := fun (v : ((List Int) × (Int × Int × Int))) => [.ow ((eH3 PyData.int PyData.int PyData.int) v.2), .no]) (v := v) rfl rfl rfl ?_
  refine k_env (r2 := [.ow ((eH3 PyData.int PyData.int PyData.int) a_pen_here), .fr (PyData.int a_most), .no]) rfl ?_
  unfold s_law_row at h
  obtain ⟨draw_1, h_draw_1, h⟩ := bnd h
  obtain ⟨rg_1, h_rg_1, h⟩ := bnd h
  obtain ⟨l_1, h_l_1, h⟩ := bnd h
  cases h
  exact k_rto (x_lcT [.ow ((eH3 PyData.int PyData.int PyData.int) l_1.2), .fr (PyData.int a_most), .no] (s := draw_1.2) (E := fun (s_1 : (Int × Int × Int)) => [.ow ((eH3 PyData.int PyData.int PyData.int) s_1), .fr (PyData.int a_most), .no]) (ea := PyData.int) (eb := PyData.int) (j_rg (y_cons (x_bin x_k (x_call [.ow ((eH3 PyData.int PyData.int PyData.int) draw_1.2), .fr (PyData.int a_most), .no] (y_cons (x_ln rfl) (y_cons (x_bw rfl) y_nil)) rfl rfl (R_law_draw m (by omega) _ _ _ h_draw_1) rfl (by rfl) (by rfl)) rfl rfl rfl) y_nil) rfl (by exact (r_1 h_rg_1))) rfl rfl h_l_1 (fun s_1 a_1 b s_2 h => by obtain ⟨number_1, h_number_1, h⟩ := bnd h; cases h; exact lc_ok [.ow ((eH3 PyData.int PyData.int PyData.int) s_1), .fr (PyData.int a_most), .fr (PyData.int a_1)] rfl x_k (x_call [.ow ((eH3 PyData.int PyData.int PyData.int) number_1.2), .fr (PyData.int a_most), .fr (PyData.int a_1)] (y_cons (x_ln rfl) y_nil) rfl rfl (R_law_number m (by omega) _ _ h_number_1) rfl (by rfl) (by rfl)) rfl rfl)) (fin_rt rfl rfl (by exact Nat.le_of_ble_eq_true rfl))
def s_worths (a_numbers : (List Int)) : Option (List Int) :=
  (ssS a_numbers).bind fun ss_1 => 
  some ss_1
theorem R_worths (m : Nat) (hm : 1 ≤ m) (a_numbers : (List Int)) (v : (List Int)) (h : s_worths a_numbers = some v) : callN prog.P m nf_worths [.fr ((eL PyData.int) a_numbers)] = some (.ow ((eL PyData.int) v), [.no]) := by
  obtain ⟨m, rfl⟩ : ∃ k, m = k + 1 := ⟨m - 1, by omega⟩
  rw [rf_worths]
  refine run_okV (W := fun (v : (List Int)) => .ow ((eL PyData.int) v)) (F := fun (v : (List Int)) => [.no]) (v := v) rfl rfl rfl ?_
  refine k_env (r2 := [.fr ((eL PyData.int) a_numbers)]) rfl ?_
  unfold s_worths at h
  obtain ⟨ss_1, h_ss_1, h⟩ := bnd h
  cases h
  exact k_rto (x_ss (x_bw rfl) rfl (by exact it_L PyData.int a_numbers) h_ss_1) (fin_rt rfl rfl (by exact Nat.le_of_ble_eq_true rfl))
def s_halved (a_low : Int) (a_high : Int) : Option Int :=
  
  some ((a_low + a_high) / (2 : Int))
theorem R_halved (m : Nat) (hm : 1 ≤ m) (a_low : Int) (a_high : Int) (v : Int) (h : s_halved a_low a_high = some v) : callN prog.P m nf_halved [.fr (PyData.int a_low), .fr (PyData.int a_high)] = some (.fr (PyData.int v), [.no, .no]) := by
  obtain ⟨m, rfl⟩ : ∃ k, m = k + 1 := ⟨m - 1, by omega⟩
  rw [rf_halved]
  refine run_okV (W := fun (v : Int) => .fr (PyData.int v)) (F := fun (v : Int) => [.no, .no]) (v := v) rfl rfl rfl ?_
  refine k_env (r2 := [.fr (PyData.int a_low), .fr (PyData.int a_high)]) rfl ?_
  unfold s_halved at h
  cases h
  exact k_rt (x_bin (x_bin (x_bw rfl) (x_bw rfl) rfl rfl rfl) x_k rfl rfl (by exact (b_fdivk (by decide)))) (fin_rt rfl rfl (by exact Nat.le_of_ble_eq_true rfl))
def s_stretches (a_side : Int) : Option (List (Int × Int)) :=
  (some [((0 : Int), (a_side - (1 : Int)))]).bind fun found_1 => 
  
  
  (whS (fun (s_1 : (List (Int × Int)) × Int) => some (decide (s_1.2 < ((s_1.1).length : Int)))) (fun (s_1 : (List (Int × Int)) × Int) => (atS s_1.1 s_1.2).bind fun at_1 => 
  
  ((if (decide (at_1.1 < at_1.2)) = true then (s_halved at_1.1 at_1.2).bind fun halved_1 => 
  (catS s_1.1 [(at_1.1, halved_1), ((halved_1 + (1 : Int)), at_1.2)]).bind fun found_2 => 
  some found_2 else some s_1.1 : Option ((List (Int × Int))))).bind fun j_1 =>
  
  some (j_1, (s_1.2 + (1 : Int)))) TURNS (found_1, (0 : Int))).bind fun t_1 =>
  (srtS (eP2 PyData.int PyData.int) t_1.1).bind fun sorted_1 => 
  some sorted_1
theorem R_stretches (m : Nat) (hm : 2 ≤ m) (a_side : Int) (v : (List (Int × Int))) (h : s_stretches a_side = some v) : callN prog.P m nf_stretches [.fr (PyData.int a_side)] = some (.ow ((eL (eP2 PyData.int PyData.int)) v), [.no]) := by
  obtain ⟨m, rfl⟩ : ∃ k, m = k + 1 := ⟨m - 1, by omega⟩
  rw [rf_stretches]
  refine run_okV (W := fun (v : (List (Int × Int))) => .ow ((eL (eP2 PyData.int PyData.int)) v)) (F := fun (v : (List (Int × Int))) => [.no]) (v := v) rfl rfl rfl ?_
  refine k_env (r2 := [.fr (PyData.int a_side), .no, .no, .no, .no, .no]) rfl ?_
  unfold s_stretches at h
  obtain ⟨found_1, h_found_1, h⟩ := bnd h
  refine k_st (r1 := [.fr (PyData.int a_side), .ow ((eL (eP2 PyData.int PyData.int)) found_1), .no, .no, .no, .no]) ?_ ?_
  · exact t_as (x_letO (e := (eL (eP2 PyData.int PyData.int))) h_found_1 (x_lst (y_cons (x_tup (y_cons x_k (y_cons (x_bin (x_bw rfl) x_k rfl rfl rfl) y_nil)) rfl (by exact sz_2)) y_nil) rfl (by exact sz_1))) rfl
  refine k_st (r1 := [.fr (PyData.int a_side), .ow ((eL (eP2 PyData.int PyData.int)) found_1), .fr (PyData.int (0 : Int)), .no, .no, .no]) ?_ ?_
  · exact t_as x_k rfl
  obtain ⟨t_1, h_t_1, h⟩ := bnd h
  refine k_st (r1 := [.fr (PyData.int a_side), .ow ((eL (eP2 PyData.int PyData.int)) t_1.1), .fr (PyData.int t_1.2), .no, .no, .no]) ?_ ?_
  · refine t_wh (E := fun (s_1 : (List (Int × Int)) × Int) => [.fr (PyData.int a_side), .ow ((eL (eP2 PyData.int PyData.int)) s_1.1), .fr (PyData.int s_1.2), .no, .no, .no]) (s0 := (found_1, (0 : Int))) rfl h_t_1 (fun s_1 b hp => by cases hp; exact (x_cmp (x_bw rfl) (x_bt (y_cons (x_bwo rfl) y_nil) rfl (by exact (f_lenL (eP2 PyData.int PyData.int) s_1.1))) rfl rfl rfl)) (fun s_1 R _ h => ?_)
    clear h_t_1
    obtain ⟨at_1, h_at_1, h⟩ := bnd h
    refine k_st (r1 := [.fr (PyData.int a_side), .ow ((eL (eP2 PyData.int PyData.int)) s_1.1), .fr (PyData.int s_1.2), .fr (PyData.int at_1.1), .fr (PyData.int at_1.2), .no]) ?_ ?_
    · exact t_as (x_ix (x_bwo rfl) (x_bw rfl) rfl rfl (g_ixL (e := (eP2 PyData.int PyData.int)) h_at_1)) rfl
    obtain ⟨j_1, h_j_1, h⟩ := bnd h
    refine k_ifJ (env := fun (z : Sl) => [.fr (PyData.int a_side), .ow ((eL (eP2 PyData.int PyData.int)) j_1), .fr (PyData.int s_1.2), .fr (PyData.int at_1.1), .fr (PyData.int at_1.2), z]) (x_cmp (x_bw rfl) (x_bw rfl) rfl rfl rfl) (fun hb_1 => ?_) (fun hb_1 => ?_) (fun z => ?_)
    · replace h := iteT hb_1 h_j_1
      clear h_j_1
      obtain ⟨halved_1, h_halved_1, h⟩ := bnd h
      refine k_st (r1 := [.fr (PyData.int a_side), .ow ((eL (eP2 PyData.int PyData.int)) s_1.1), .fr (PyData.int s_1.2), .fr (PyData.int at_1.1), .fr (PyData.int at_1.2), .fr (PyData.int halved_1)]) ?_ ?_
      · exact t_as (x_call0 (y_cons (x_bw rfl) (y_cons (x_bw rfl) y_nil)) rfl rfl (R_halved m (by omega) _ _ _ h_halved_1) rfl (by rfl)) rfl
      obtain ⟨found_2, h_found_2, h⟩ := bnd h
      refine k_st (r1 := [.fr (PyData.int a_side), .ow ((eL (eP2 PyData.int PyData.int)) found_2), .fr (PyData.int s_1.2), .fr (PyData.int at_1.1), .fr (PyData.int at_1.2), .fr (PyData.int halved_1)]) ?_ ?_
      · exact t_ex (x_mu [.fr (PyData.int a_side), .ow ((eL (eP2 PyData.int PyData.int)) found_2), .fr (PyData.int s_1.2), .fr (PyData.int at_1.1), .fr (PyData.int at_1.2), .fr (PyData.int halved_1)] rfl (y_cons (x_lst (y_cons (x_tup (y_cons (x_v rfl) (y_cons (x_v rfl) y_nil)) rfl (by exact sz_2)) (y_cons (x_tup (y_cons (x_bin (x_bw rfl) x_k rfl rfl rfl) (y_cons (x_v rfl) y_nil)) rfl (by exact sz_2)) y_nil)) rfl (by exact sz_2)) y_nil) rfl rfl (m_ext (e := (eP2 PyData.int PyData.int)) h_found_2) rfl)
      refine k_pop ?_
      cases h
      exact k_nil ⟨_, rfl⟩
    · replace h := iteF hb_1 h_j_1
      clear h_j_1
      refine k_pop ?_
      cases h
      exact k_nil ⟨_, rfl⟩
    rename Sl => z_1
    refine k_st (r1 := [.fr (PyData.int a_side), .ow ((eL (eP2 PyData.int PyData.int)) j_1), .fr (PyData.int (s_1.2 + (1 : Int))), .fr (PyData.int at_1.1), .fr (PyData.int at_1.2), z_1]) ?_ ?_
    · exact t_as (x_bin (x_bw rfl) x_k rfl rfl rfl) rfl
    refine k_pop ?_
    cases h
    exact k_nil (nx_i rfl)
  obtain ⟨sorted_1, h_sorted_1, h⟩ := bnd h
  cases h
  exact k_rto (x_bt (y_cons (x_bwo rfl) y_nil) rfl (by exact (f_sorted h_sorted_1))) (fin_rt rfl rfl (by exact Nat.le_of_ble_eq_true rfl))
def s_flags_of (a_numbers : (List Int)) (a_spots : (List (Int × Int))) (a_stretch : (Int × Int)) : Option (List Int) :=
  
  
  (forS (fun (s_1 : (List Int)) (a_1 : Int) => (dgS a_spots a_1).bind fun at_1 => 
  
  if (decide (a_stretch.1 ≤ at_1) && decide (at_1 ≤ a_stretch.2)) = true then (appS s_1 (if (decide (((a_stretch.1 + a_stretch.2) / (2 : Int)) < at_1)) = true then (1 : Int) else 0)).bind fun found_1 => 
  some found_1
  else some s_1) ([] : (List Int)) a_numbers).bind fun t_1 =>
  
  some t_1
theorem R_flags_of (m : Nat) (hm : 1 ≤ m) (a_numbers : (List Int)) (a_spots : (List (Int × Int))) (a_stretch : (Int × Int)) (v : (List Int)) (h : s_flags_of a_numbers a_spots a_stretch = some v) : callN prog.P m nf_flags_of [.fr ((eL PyData.int) a_numbers), .fr ((eD PyData.int PyData.int) a_spots), .fr ((eP2 PyData.int PyData.int) a_stretch)] = some (.fr ((eT PyData.int) v), [.no, .no, .no]) := by
  obtain ⟨m, rfl⟩ : ∃ k, m = k + 1 := ⟨m - 1, by omega⟩
  rw [rf_flags_of]
  refine run_okV (W := fun (v : (List Int)) => .fr ((eT PyData.int) v)) (F := fun (v : (List Int)) => [.no, .no, .no]) (v := v) rfl rfl rfl ?_
  refine k_env (r2 := [.fr ((eL PyData.int) a_numbers), .fr ((eD PyData.int PyData.int) a_spots), .fr ((eP2 PyData.int PyData.int) a_stretch), .no, .no, .no]) rfl ?_
  unfold s_flags_of at h
  refine k_st (r1 := [.fr ((eL PyData.int) a_numbers), .fr ((eD PyData.int PyData.int) a_spots), .fr ((eP2 PyData.int PyData.int) a_stretch), .ow ((eL PyData.int) []), .no, .no]) ?_ ?_
  · exact t_as (x_lst y_nil rfl (by exact sz_0)) rfl
  obtain ⟨t_1, h_t_1, h⟩ := bnd h
  refine k_st (r1 := [.fr ((eL PyData.int) a_numbers), .fr ((eD PyData.int PyData.int) a_spots), .fr ((eP2 PyData.int PyData.int) a_stretch), .ow ((eL PyData.int) t_1), .no, .no]) ?_ ?_
  · refine t_for (E := fun (s_1 : (List Int)) => [.fr ((eL PyData.int) a_numbers), .fr ((eD PyData.int PyData.int) a_spots), .fr ((eP2 PyData.int PyData.int) a_stretch), .ow ((eL PyData.int) s_1), .no, .no]) (ea := PyData.int) (s0 := ([] : (List Int))) (j_ov (x_bw rfl) rfl (by exact it_L PyData.int a_numbers) rfl) rfl rfl h_t_1 rfl (fun s_1 a_1 R h => turn rfl ?_)
    clear h_t_1
    obtain ⟨at_1, h_at_1, h⟩ := bnd h
    refine k_st (r1 := [.fr ((eL PyData.int) a_numbers), .fr ((eD PyData.int PyData.int) a_spots), .fr ((eP2 PyData.int PyData.int) a_stretch), .ow ((eL PyData.int) s_1), .fr (PyData.int a_1), .fr (PyData.int at_1)]) ?_ ?_
    · exact t_as (x_ix (x_bw rfl) (x_bw rfl) rfl rfl (by exact g_ixI (e2 := PyData.int) h_at_1)) rfl
    refine k_if (x_ch (x_ix (x_bw rfl) x_k rfl rfl rfl) (x_bw rfl) rfl rfl rfl (fun _ => ⟨(x_ix (x_bw rfl) x_k rfl rfl rfl), rfl, rfl, rfl⟩)) (fun hb_1 => ?_) (fun hb_1 => ?_)
    · replace h := iteT hb_1 h
      obtain ⟨found_1, h_found_1, h⟩ := bnd h
      refine k_st (r1 := [.fr ((eL PyData.int) a_numbers), .fr ((eD PyData.int PyData.int) a_spots), .fr ((eP2 PyData.int PyData.int) a_stretch), .ow ((eL PyData.int) found_1), .fr (PyData.int a_1), .fr (PyData.int at_1)]) ?_ ?_
      · exact t_ex (x_mu [.fr ((eL PyData.int) a_numbers), .fr ((eD PyData.int PyData.int) a_spots), .fr ((eP2 PyData.int PyData.int) a_stretch), .ow ((eL PyData.int) found_1), .fr (PyData.int a_1), .fr (PyData.int at_1)] rfl (y_cons (x_bt (y_cons (x_cmp (x_bw rfl) (x_bin (x_bin (x_ix (x_bw rfl) x_k rfl rfl rfl) (x_ix (x_bw rfl) x_k rfl rfl rfl) rfl rfl rfl) x_k rfl rfl (by exact (b_fdivk (by decide)))) rfl rfl rfl) y_nil) rfl rfl) y_nil) rfl rfl (m_app (e := PyData.int) h_found_1) rfl)
      refine k_pop ?_
      refine k_pop ?_
      cases h
      exact k_nil (nx_i rfl)
    · replace h := iteF hb_1 h
      refine k_pop ?_
      refine k_pop ?_
      cases h
      exact k_nil (nx_i rfl)
  cases h
  exact k_rt (x_bt (y_cons (x_bwo rfl) y_nil) rfl rfl) (fin_rt rfl rfl (by exact Nat.le_of_ble_eq_true rfl))
def s_parted (a_numbers : (List Int)) : Option (List ((Int × Int) × (List Int))) :=
  (s_worths a_numbers).bind fun worths_1 => (mapS (fun (a_1 : (Int × Int)) => some (a_1.2, a_1.1)) (enumS 0 worths_1)).bind fun l_1 => 
  (s_stretches (((dmS l_1)).length : Int)).bind fun stretches_1 => (filS (fun (a_2 : (Int × Int)) => some (decide (a_2.1 < a_2.2))) (fun (a_2 : (Int × Int)) => (s_flags_of a_numbers (dmS l_1) a_2).bind fun flags_of_1 => some (a_2, flags_of_1)) stretches_1).bind fun l_2 => 
  some l_2
theorem R_parted (m : Nat) (hm : 3 ≤ m) (a_numbers : (List Int)) (v : (List ((Int × Int) × (List Int)))) (h : s_parted a_numbers = some v) : callN prog.P m nf_parted [.fr ((eL PyData.int) a_numbers)] = some (.ow ((eL (eP2 (eP2 PyData.int PyData.int) (eT PyData.int))) v), [.no]) := by
  obtain ⟨m, rfl⟩ : ∃ k, m = k + 1 := ⟨m - 1, by omega⟩
  rw [rf_parted]
  refine run_okV (W := fun (v : (List ((Int × Int) × (List Int)))) => .ow ((eL (eP2 (eP2 PyData.int PyData.int) (eT PyData.int))) v)) (F := fun (v : (List ((Int × Int) × (List Int)))) => [.no]) (v := v) rfl rfl rfl ?_
  refine k_env (r2 := [.fr ((eL PyData.int) a_numbers), .no, .no, .no, .no]) rfl ?_
  unfold s_parted at h
  obtain ⟨worths_1, h_worths_1, h⟩ := bnd h
  obtain ⟨l_1, h_l_1, h⟩ := bnd h
  refine k_st (r1 := [.fr ((eL PyData.int) a_numbers), .ow ((eD PyData.int PyData.int) (dmS l_1)), .no, .no, .no]) ?_ ?_
  · exact t_as (x_bt (y_cons (x_lcM [.fr ((eL PyData.int) a_numbers), .no, .no, .no, .no] [.fr ((eL PyData.int) a_numbers), .no, .no, .no, .no] (ea := (eP2 PyData.int PyData.int)) (eb := (eP2 PyData.int PyData.int)) (j_en (x_call0 (y_cons (x_bw rfl) y_nil) rfl rfl (R_worths m (by omega) _ _ h_worths_1) rfl (by rfl)) rfl (by exact n_L PyData.int worths_1) rfl) rfl rfl h_l_1 (fun a_1 b h => by cases h; exact lc_ok [.fr ((eL PyData.int) a_numbers), .no, .no, .fr (PyData.int a_1.1), .fr (PyData.int a_1.2)] rfl x_k (x_tup (y_cons (x_v rfl) (y_cons (x_v rfl) y_nil)) rfl (by exact sz_2)) rfl rfl)) y_nil) rfl (by exact (f_dctI (e2 := PyData.int) l_1))) rfl
  obtain ⟨stretches_1, h_stretches_1, h⟩ := bnd h
  obtain ⟨l_2, h_l_2, h⟩ := bnd h
  cases h
  exact k_rto (x_lcF [.fr ((eL PyData.int) a_numbers), .ow ((eD PyData.int PyData.int) (dmS l_1)), .no, .no, .no] [.fr ((eL PyData.int) a_numbers), .ow ((eD PyData.int PyData.int) (dmS l_1)), .no, .no, .no] (ea := (eP2 PyData.int PyData.int)) (eb := (eP2 (eP2 PyData.int PyData.int) (eT PyData.int))) (j_ov (x_call0 (y_cons (x_bt (y_cons (x_bwo rfl) y_nil) rfl (by exact (f_lenN (e1 := PyData.int) (e2 := PyData.int) (kvs := (dmS l_1))))) y_nil) rfl rfl (R_stretches m (by omega) _ _ h_stretches_1) rfl (by rfl)) rfl (by exact it_L (eP2 PyData.int PyData.int) stretches_1) rfl) rfl rfl h_l_2 (fun a_2 b hp h => by have hp := Option.some.inj hp; obtain ⟨flags_of_1, h_flags_of_1, h⟩ := bnd h; cases h; exact lc_ok [.fr ((eL PyData.int) a_numbers), .ow ((eD PyData.int PyData.int) (dmS l_1)), .fr ((eP2 PyData.int PyData.int) a_2), .no, .no] rfl (x_is hp (x_cmp (x_ix (x_bw rfl) x_k rfl rfl rfl) (x_ix (x_bw rfl) x_k rfl rfl rfl) rfl rfl rfl)) (x_tup (y_cons (x_v rfl) (y_cons (x_callF (y_cons (x_bw rfl) (y_cons (x_bwo rfl) (y_cons (x_bw rfl) y_nil))) rfl rfl (R_flags_of m (by omega) _ _ _ _ h_flags_of_1) rfl (flat_fr (fle_T fle_int) _) rfl) y_nil)) rfl (by exact sz_2)) rfl rfl) (fun a_2 hp => by have hp := Option.some.inj hp; exact lc_no [.fr ((eL PyData.int) a_numbers), .ow ((eD PyData.int PyData.int) (dmS l_1)), .fr ((eP2 PyData.int PyData.int) a_2), .no, .no] rfl (x_is hp (x_cmp (x_ix (x_bw rfl) x_k rfl rfl rfl) (x_ix (x_bw rfl) x_k rfl rfl rfl) rfl rfl rfl)) rfl)) (fin_rt rfl rfl (by exact Nat.le_of_ble_eq_true rfl))
def s_law_worths (a_numbers : (List Int)) : Option (List Int) :=
  
  (srtS PyData.int a_numbers).bind fun sorted_1 => 
  (forS (fun (s_1 : (List Int)) (a_1 : Int) => (orS (decide (s_1 = [])) ((atS s_1 (-(1 : Int))).bind fun at_1 => some (!decide (at_1 = a_1)))).bind fun both_1 => 
  if both_1 = true then (appS s_1 a_1).bind fun found_1 => 
  some found_1
  else some s_1) ([] : (List Int)) sorted_1).bind fun t_1 =>
  
  some t_1
theorem R_law_worths (m : Nat) (hm : 1 ≤ m) (a_numbers : (List Int)) (v : (List Int)) (h : s_law_worths a_numbers = some v) : callN prog.P m nf_law_worths [.fr ((eL PyData.int) a_numbers)] = some (.ow ((eL PyData.int) v), [.no]) := by
  obtain ⟨m, rfl⟩ : ∃ k, m = k + 1 := ⟨m - 1, by omega⟩
  rw [rf_law_worths]
  refine run_okV (W := fun (v : (List Int)) => .ow ((eL PyData.int) v)) (F := fun (v : (List Int)) => [.no]) (v := v) rfl rfl rfl ?_
  refine k_env (r2 := [.fr ((eL PyData.int) a_numbers), .no, .no]) rfl ?_
  unfold s_law_worths at h
  refine k_st (r1 := [.fr ((eL PyData.int) a_numbers), .ow ((eL PyData.int) []), .no]) ?_ ?_
  · exact t_as (x_lst y_nil rfl (by exact sz_0)) rfl
  obtain ⟨sorted_1, h_sorted_1, h⟩ := bnd h
  obtain ⟨t_1, h_t_1, h⟩ := bnd h
  refine k_st (r1 := [.fr ((eL PyData.int) a_numbers), .ow ((eL PyData.int) t_1), .no]) ?_ ?_
  · refine t_for (E := fun (s_1 : (List Int)) => [.fr ((eL PyData.int) a_numbers), .ow ((eL PyData.int) s_1), .no]) (ea := PyData.int) (s0 := ([] : (List Int))) (j_ov (x_bt (y_cons (x_bw rfl) y_nil) rfl (by exact (f_sorted h_sorted_1))) rfl (by exact it_L PyData.int sorted_1) rfl) rfl rfl h_t_1 rfl (fun s_1 a_1 R h => turn rfl ?_)
    clear h_t_1
    obtain ⟨both_1, h_both_1, h⟩ := bnd h
    refine k_if (x_orS h_both_1 (x_cmp (x_bwo rfl) (x_lst y_nil rfl (by exact sz_0)) rfl rfl (by exact (c_eq (eqe_L eqe_int) (by decide) s_1 []))) (fun _ _ h => by obtain ⟨at_1, h_at_1, h⟩ := bnd h; cases h; exact (x_cmp (x_ix (x_bwo rfl) (x_neg x_k) rfl rfl (g_ixL (e := PyData.int) h_at_1)) (x_bw rfl) rfl rfl (by exact (c_ne eqe_int (by decide) at_1 a_1))))) (fun hb_1 => ?_) (fun hb_1 => ?_)
    · replace h := iteT hb_1 h
      obtain ⟨found_1, h_found_1, h⟩ := bnd h
      refine k_st (r1 := [.fr ((eL PyData.int) a_numbers), .ow ((eL PyData.int) found_1), .fr (PyData.int a_1)]) ?_ ?_
      · exact t_ex (x_mu [.fr ((eL PyData.int) a_numbers), .ow ((eL PyData.int) found_1), .fr (PyData.int a_1)] rfl (y_cons (x_v rfl) y_nil) rfl rfl (m_app (e := PyData.int) h_found_1) rfl)
      refine k_pop ?_
      refine k_pop ?_
      cases h
      exact k_nil (nx_i rfl)
    · replace h := iteF hb_1 h
      refine k_pop ?_
      refine k_pop ?_
      cases h
      exact k_nil (nx_i rfl)
  cases h
  exact k_rto (x_mvo [.fr ((eL PyData.int) a_numbers), .no, .no] rfl rfl) (fin_rt rfl rfl (by exact Nat.le_of_ble_eq_true rfl))
def s_law_halves (a_size : Int) : Option (List (Int × Int)) :=
  (some [((0 : Int), (a_size - (1 : Int)))]).bind fun left_1 => 
  
  
  (whS (fun (s_1 : (List (Int × Int)) × (List (Int × Int))) => some (!decide (s_1.1 = []))) (fun (s_1 : (List (Int × Int)) × (List (Int × Int))) => (popS s_1.1).bind fun pop_1 => 
  (appS s_1.2 (pop_1.1.1, pop_1.1.2)).bind fun found_1 => 
  
  if (decide (pop_1.1.1 < pop_1.1.2)) = true then (some ((pop_1.1.1 + pop_1.1.2) / (2 : Int))).bind fun middle_1 => 
  (catS pop_1.2 [(pop_1.1.1, middle_1), ((middle_1 + (1 : Int)), pop_1.1.2)]).bind fun left_2 => 
  some (left_2, found_1)
  else some (pop_1.2, found_1)) TURNS (left_1, [])).bind fun t_1 =>
  (srtS (eP2 PyData.int PyData.int) t_1.2).bind fun sorted_1 => 
  some sorted_1
theorem R_law_halves (m : Nat) (hm : 1 ≤ m) (a_size : Int) (v : (List (Int × Int))) (h : s_law_halves a_size = some v) : callN prog.P m nf_law_halves [.fr (PyData.int a_size)] = some (.ow ((eL (eP2 PyData.int PyData.int)) v), [.no]) := by
  obtain ⟨m, rfl⟩ : ∃ k, m = k + 1 := ⟨m - 1, by omega⟩
  rw [rf_law_halves]
  refine run_okV (W := fun (v : (List (Int × Int))) => .ow ((eL (eP2 PyData.int PyData.int)) v)) (F := fun (v : (List (Int × Int))) => [.no]) (v := v) rfl rfl rfl ?_
  refine k_env (r2 := [.fr (PyData.int a_size), .no, .no, .no, .no, .no]) rfl ?_
  unfold s_law_halves at h
  obtain ⟨left_1, h_left_1, h⟩ := bnd h
  refine k_st (r1 := [.fr (PyData.int a_size), .ow ((eL (eP2 PyData.int PyData.int)) left_1), .no, .no, .no, .no]) ?_ ?_
  · exact t_as (x_letO (e := (eL (eP2 PyData.int PyData.int))) h_left_1 (x_lst (y_cons (x_tup (y_cons x_k (y_cons (x_bin (x_bw rfl) x_k rfl rfl rfl) y_nil)) rfl (by exact sz_2)) y_nil) rfl (by exact sz_1))) rfl
  refine k_st (r1 := [.fr (PyData.int a_size), .ow ((eL (eP2 PyData.int PyData.int)) left_1), .ow ((eL (eP2 PyData.int PyData.int)) []), .no, .no, .no]) ?_ ?_
  · exact t_as (x_lst y_nil rfl (by exact sz_0)) rfl
  obtain ⟨t_1, h_t_1, h⟩ := bnd h
  refine k_st (r1 := [.fr (PyData.int a_size), .ow ((eL (eP2 PyData.int PyData.int)) t_1.1), .ow ((eL (eP2 PyData.int PyData.int)) t_1.2), .no, .no, .no]) ?_ ?_
  · refine t_wh (E := fun (s_1 : (List (Int × Int)) × (List (Int × Int))) => [.fr (PyData.int a_size), .ow ((eL (eP2 PyData.int PyData.int)) s_1.1), .ow ((eL (eP2 PyData.int PyData.int)) s_1.2), .no, .no, .no]) (s0 := (left_1, [])) rfl h_t_1 (fun s_1 b hp => by cases hp; exact (x_cmp (x_bwo rfl) (x_lst y_nil rfl (by exact sz_0)) rfl rfl (by exact (c_ne (eqe_L (eqe_P2 eqe_int eqe_int)) (by decide) s_1.1 [])))) (fun s_1 R _ h => ?_)
    clear h_t_1
    obtain ⟨pop_1, h_pop_1, h⟩ := bnd h
    refine k_st (r1 := [.fr (PyData.int a_size), .ow ((eL (eP2 PyData.int PyData.int)) pop_1.2), .ow ((eL (eP2 PyData.int PyData.int)) s_1.2), .fr (PyData.int pop_1.1.1), .fr (PyData.int pop_1.1.2), .no]) ?_ ?_
    · exact t_as (x_mu [.fr (PyData.int a_size), .ow ((eL (eP2 PyData.int PyData.int)) pop_1.2), .ow ((eL (eP2 PyData.int PyData.int)) s_1.2), .no, .no, .no] rfl y_nil rfl rfl (m_pop (e := (eP2 PyData.int PyData.int)) h_pop_1) rfl) rfl
    obtain ⟨found_1, h_found_1, h⟩ := bnd h
    refine k_st (r1 := [.fr (PyData.int a_size), .ow ((eL (eP2 PyData.int PyData.int)) pop_1.2), .ow ((eL (eP2 PyData.int PyData.int)) found_1), .fr (PyData.int pop_1.1.1), .fr (PyData.int pop_1.1.2), .no]) ?_ ?_
    · exact t_ex (x_mu [.fr (PyData.int a_size), .ow ((eL (eP2 PyData.int PyData.int)) pop_1.2), .ow ((eL (eP2 PyData.int PyData.int)) found_1), .fr (PyData.int pop_1.1.1), .fr (PyData.int pop_1.1.2), .no] rfl (y_cons (x_tup (y_cons (x_v rfl) (y_cons (x_v rfl) y_nil)) rfl (by exact sz_2)) y_nil) rfl rfl (m_app (e := (eP2 PyData.int PyData.int)) h_found_1) rfl)
    refine k_if (x_cmp (x_bw rfl) (x_bw rfl) rfl rfl rfl) (fun hb_1 => ?_) (fun hb_1 => ?_)
    · replace h := iteT hb_1 h
      obtain ⟨middle_1, h_middle_1, h⟩ := bnd h
      refine k_st (r1 := [.fr (PyData.int a_size), .ow ((eL (eP2 PyData.int PyData.int)) pop_1.2), .ow ((eL (eP2 PyData.int PyData.int)) found_1), .fr (PyData.int pop_1.1.1), .fr (PyData.int pop_1.1.2), .fr (PyData.int middle_1)]) ?_ ?_
      · exact t_as (x_letF (e := PyData.int) h_middle_1 (x_bin (x_bin (x_bw rfl) (x_bw rfl) rfl rfl rfl) x_k rfl rfl (by exact (b_fdivk (by decide))))) rfl
      obtain ⟨left_2, h_left_2, h⟩ := bnd h
      refine k_st (r1 := [.fr (PyData.int a_size), .ow ((eL (eP2 PyData.int PyData.int)) left_2), .ow ((eL (eP2 PyData.int PyData.int)) found_1), .fr (PyData.int pop_1.1.1), .fr (PyData.int pop_1.1.2), .fr (PyData.int middle_1)]) ?_ ?_
      · exact t_ex (x_mu [.fr (PyData.int a_size), .ow ((eL (eP2 PyData.int PyData.int)) left_2), .ow ((eL (eP2 PyData.int PyData.int)) found_1), .fr (PyData.int pop_1.1.1), .fr (PyData.int pop_1.1.2), .fr (PyData.int middle_1)] rfl (y_cons (x_lst (y_cons (x_tup (y_cons (x_v rfl) (y_cons (x_v rfl) y_nil)) rfl (by exact sz_2)) (y_cons (x_tup (y_cons (x_bin (x_bw rfl) x_k rfl rfl rfl) (y_cons (x_v rfl) y_nil)) rfl (by exact sz_2)) y_nil)) rfl (by exact sz_2)) y_nil) rfl rfl (m_ext (e := (eP2 PyData.int PyData.int)) h_left_2) rfl)
      refine k_pop ?_
      refine k_pop ?_
      cases h
      exact k_nil (nx_i rfl)
    · replace h := iteF hb_1 h
      refine k_pop ?_
      refine k_pop ?_
      cases h
      exact k_nil (nx_i rfl)
  obtain ⟨sorted_1, h_sorted_1, h⟩ := bnd h
  cases h
  exact k_rto (x_bt (y_cons (x_bwo rfl) y_nil) rfl (by exact (f_sorted h_sorted_1))) (fin_rt rfl rfl (by exact Nat.le_of_ble_eq_true rfl))
def s_law_parting (a_numbers : (List Int)) : Option (List ((Int × Int) × (List Int))) :=
  (s_law_worths a_numbers).bind fun worths_1 => 
  
  (s_law_halves ((worths_1).length : Int)).bind fun halves_1 => 
  (forS (fun (s_1 : (List ((Int × Int) × (List Int)))) (a_1 : (Int × Int)) => 
  if (decide (a_1.1 < a_1.2)) = true then (filS (fun (a_2 : Int) => (atS worths_1 a_1.1).bind fun at_1 => (anS (decide (at_1 ≤ a_2)) ((atS worths_1 a_1.2).bind fun at_2 => some (decide (a_2 ≤ at_2)))).bind fun both_1 => some both_1) (fun (a_2 : Int) => some a_2) a_numbers).bind fun l_1 => 
  (mapS (fun (a_3 : Int) => (atS worths_1 ((a_1.1 + a_1.2) / (2 : Int))).bind fun at_3 => some (if (decide (at_3 < a_3)) = true then (1 : Int) else 0)) l_1).bind fun l_2 => (appS s_1 ((a_1.1, a_1.2), l_2)).bind fun found_1 => 
  some found_1
  else some s_1) ([] : (List ((Int × Int) × (List Int)))) halves_1).bind fun t_1 =>
  
  some t_1
theorem R_law_parting (m : Nat) (hm : 2 ≤ m) (a_numbers : (List Int)) (v : (List ((Int × Int) × (List Int)))) (h : s_law_parting a_numbers = some v) : callN prog.P m nf_law_parting [.fr ((eL PyData.int) a_numbers)] = some (.ow ((eL (eP2 (eP2 PyData.int PyData.int) (eT PyData.int))) v), [.no]) := by
  obtain ⟨m, rfl⟩ : ∃ k, m = k + 1 := ⟨m - 1, by omega⟩
  rw [rf_law_parting]
  refine run_okV (W := fun (v : (List ((Int × Int) × (List Int)))) => .ow ((eL (eP2 (eP2 PyData.int PyData.int) (eT PyData.int))) v)) (F := fun (v : (List ((Int × Int) × (List Int)))) => [.no]) (v := v) rfl rfl rfl ?_
  refine k_env (r2 := [.fr ((eL PyData.int) a_numbers), .no, .no, .no, .no, .no, .no]) rfl ?_
  unfold s_law_parting at h
  obtain ⟨worths_1, h_worths_1, h⟩ := bnd h
  refine k_st (r1 := [.fr ((eL PyData.int) a_numbers), .ow ((eL PyData.int) worths_1), .no, .no, .no, .no, .no]) ?_ ?_
  · exact t_as (x_call0 (y_cons (x_bw rfl) y_nil) rfl rfl (R_law_worths m (by omega) _ _ h_worths_1) rfl (by rfl)) rfl
  refine k_st (r1 := [.fr ((eL PyData.int) a_numbers), .ow ((eL PyData.int) worths_1), .ow ((eL (eP2 (eP2 PyData.int PyData.int) (eT PyData.int))) []), .no, .no, .no, .no]) ?_ ?_
  · exact t_as (x_lst y_nil rfl (by exact sz_0)) rfl
  obtain ⟨halves_1, h_halves_1, h⟩ := bnd h
  obtain ⟨t_1, h_t_1, h⟩ := bnd h
  refine k_st (r1 := [.fr ((eL PyData.int) a_numbers), .ow ((eL PyData.int) worths_1), .ow ((eL (eP2 (eP2 PyData.int PyData.int) (eT PyData.int))) t_1), .no, .no, .no, .no]) ?_ ?_
  · refine t_for (E := fun (s_1 : (List ((Int × Int) × (List Int)))) => [.fr ((eL PyData.int) a_numbers), .ow ((eL PyData.int) worths_1), .ow ((eL (eP2 (eP2 PyData.int PyData.int) (eT PyData.int))) s_1), .no, .no, .no, .no]) (ea := (eP2 PyData.int PyData.int)) (s0 := ([] : (List ((Int × Int) × (List Int))))) (j_ov (x_call0 (y_cons (x_bt (y_cons (x_bwo rfl) y_nil) rfl (by exact (f_lenL PyData.int worths_1))) y_nil) rfl rfl (R_law_halves m (by omega) _ _ h_halves_1) rfl (by rfl)) rfl (by exact it_L (eP2 PyData.int PyData.int) halves_1) rfl) rfl rfl h_t_1 rfl (fun s_1 a_1 R h => turn rfl ?_)
    clear h_t_1
    refine k_if (x_cmp (x_bw rfl) (x_bw rfl) rfl rfl rfl) (fun hb_1 => ?_) (fun hb_1 => ?_)
    · replace h := iteT hb_1 h
      obtain ⟨l_1, h_l_1, h⟩ := bnd h
      refine k_st (r1 := [.fr ((eL PyData.int) a_numbers), .ow ((eL PyData.int) worths_1), .ow ((eL (eP2 (eP2 PyData.int PyData.int) (eT PyData.int))) s_1), .fr (PyData.int a_1.1), .fr (PyData.int a_1.2), .ow ((eL PyData.int) l_1), .no]) ?_ ?_
      · exact t_as (x_lcF [.fr ((eL PyData.int) a_numbers), .ow ((eL PyData.int) worths_1), .ow ((eL (eP2 (eP2 PyData.int PyData.int) (eT PyData.int))) s_1), .fr (PyData.int a_1.1), .fr (PyData.int a_1.2), .no, .no] [.fr ((eL PyData.int) a_numbers), .ow ((eL PyData.int) worths_1), .ow ((eL (eP2 (eP2 PyData.int PyData.int) (eT PyData.int))) s_1), .fr (PyData.int a_1.1), .fr (PyData.int a_1.2), .no, .no] (ea := PyData.int) (eb := PyData.int) (j_ov (x_bw rfl) rfl (by exact it_L PyData.int a_numbers) rfl) rfl rfl h_l_1 (fun a_2 b hp h => by obtain ⟨at_1, h_at_1, hp⟩ := bnd hp; obtain ⟨both_1, h_both_1, hp⟩ := bnd hp; have hp := Option.some.inj hp; cases h; exact lc_ok [.fr ((eL PyData.int) a_numbers), .ow ((eL PyData.int) worths_1), .ow ((eL (eP2 (eP2 PyData.int PyData.int) (eT PyData.int))) s_1), .fr (PyData.int a_1.1), .fr (PyData.int a_1.2), .no, .fr (PyData.int a_2)] rfl (x_is hp (x_chS h_both_1 (x_ix (x_bwo rfl) (x_bw rfl) rfl rfl (g_ixL (e := PyData.int) h_at_1)) (x_bw rfl) rfl rfl rfl (fun _ _ h => by obtain ⟨at_2, h_at_2, h⟩ := bnd h; cases h; exact ⟨_, _, _, (x_ix (x_bwo rfl) (x_bw rfl) rfl rfl (g_ixL (e := PyData.int) h_at_2)), rfl, rfl, rfl⟩))) (x_v rfl) rfl rfl) (fun a_2 hp => by obtain ⟨at_1, h_at_1, hp⟩ := bnd hp; obtain ⟨both_1, h_both_1, hp⟩ := bnd hp; have hp := Option.some.inj hp; exact lc_no [.fr ((eL PyData.int) a_numbers), .ow ((eL PyData.int) worths_1), .ow ((eL (eP2 (eP2 PyData.int PyData.int) (eT PyData.int))) s_1), .fr (PyData.int a_1.1), .fr (PyData.int a_1.2), .no, .fr (PyData.int a_2)] rfl (x_is hp (x_chS h_both_1 (x_ix (x_bwo rfl) (x_bw rfl) rfl rfl (g_ixL (e := PyData.int) h_at_1)) (x_bw rfl) rfl rfl rfl (fun _ _ h => by obtain ⟨at_2, h_at_2, h⟩ := bnd h; cases h; exact ⟨_, _, _, (x_ix (x_bwo rfl) (x_bw rfl) rfl rfl (g_ixL (e := PyData.int) h_at_2)), rfl, rfl, rfl⟩))) rfl)) rfl
      obtain ⟨l_2, h_l_2, h⟩ := bnd h
      obtain ⟨found_1, h_found_1, h⟩ := bnd h
      refine k_st (r1 := [.fr ((eL PyData.int) a_numbers), .ow ((eL PyData.int) worths_1), .ow ((eL (eP2 (eP2 PyData.int PyData.int) (eT PyData.int))) found_1), .fr (PyData.int a_1.1), .fr (PyData.int a_1.2), .ow ((eL PyData.int) l_1), .no]) ?_ ?_
      · exact t_ex (x_mu [.fr ((eL PyData.int) a_numbers), .ow ((eL PyData.int) worths_1), .ow ((eL (eP2 (eP2 PyData.int PyData.int) (eT PyData.int))) found_1), .fr (PyData.int a_1.1), .fr (PyData.int a_1.2), .ow ((eL PyData.int) l_1), .no] rfl (y_cons (x_tup (y_cons (x_tup (y_cons (x_v rfl) (y_cons (x_v rfl) y_nil)) rfl (by exact sz_2)) (y_cons (x_bt (y_cons (x_lcM [.fr ((eL PyData.int) a_numbers), .ow ((eL PyData.int) worths_1), .ow ((eL (eP2 (eP2 PyData.int PyData.int) (eT PyData.int))) s_1), .fr (PyData.int a_1.1), .fr (PyData.int a_1.2), .no, .no] [.fr ((eL PyData.int) a_numbers), .ow ((eL PyData.int) worths_1), .ow ((eL (eP2 (eP2 PyData.int PyData.int) (eT PyData.int))) s_1), .fr (PyData.int a_1.1), .fr (PyData.int a_1.2), .ow ((eL PyData.int) l_1), .no] (ea := PyData.int) (eb := PyData.int) (j_ov (x_bwo rfl) rfl (by exact it_L PyData.int l_1) rfl) rfl rfl h_l_2 (fun a_3 b h => by obtain ⟨at_3, h_at_3, h⟩ := bnd h; cases h; exact lc_ok [.fr ((eL PyData.int) a_numbers), .ow ((eL PyData.int) worths_1), .ow ((eL (eP2 (eP2 PyData.int PyData.int) (eT PyData.int))) s_1), .fr (PyData.int a_1.1), .fr (PyData.int a_1.2), .no, .fr (PyData.int a_3)] rfl x_k (x_bt (y_cons (x_cmp (x_bw rfl) (x_ix (x_bwo rfl) (x_bin (x_bin (x_bw rfl) (x_bw rfl) rfl rfl rfl) x_k rfl rfl (by exact (b_fdivk (by decide)))) rfl rfl (g_ixL (e := PyData.int) h_at_3)) rfl rfl rfl) y_nil) rfl rfl) rfl rfl)) y_nil) rfl rfl) y_nil)) rfl (by exact sz_2)) y_nil) rfl rfl (m_app (e := (eP2 (eP2 PyData.int PyData.int) (eT PyData.int))) h_found_1) rfl)
      refine k_pop ?_
      refine k_pop ?_
      cases h
      exact k_nil (nx_i rfl)
    · replace h := iteF hb_1 h
      refine k_pop ?_
      refine k_pop ?_
      cases h
      exact k_nil (nx_i rfl)
  cases h
  exact k_rto (x_mvo [.fr ((eL PyData.int) a_numbers), .ow ((eL PyData.int) worths_1), .no, .no, .no, .no, .no] rfl rfl) (fin_rt rfl rfl (by exact Nat.le_of_ble_eq_true rfl))
def s_is_whole (a_thing : Int) : Option Bool :=
  
  some (true && (!false))
theorem R_is_whole (m : Nat) (hm : 1 ≤ m) (a_thing : Int) (v : Bool) (h : s_is_whole a_thing = some v) : callN prog.P m nf_is_whole [.fr (PyData.int a_thing)] = some (.fr (PyData.bool v), [.no]) := by
  obtain ⟨m, rfl⟩ : ∃ k, m = k + 1 := ⟨m - 1, by omega⟩
  rw [rf_is_whole]
  refine run_okV (W := fun (v : Bool) => .fr (PyData.bool v)) (F := fun (v : Bool) => [.no]) (v := v) rfl rfl rfl ?_
  refine k_env (r2 := [.fr (PyData.int a_thing)]) rfl ?_
  unfold s_is_whole at h
  cases h
  exact k_rt (x_an (x_isiK (x_bw rfl) rfl (by rfl)) (fun _ => (x_nt (x_isiK (x_bw rfl) rfl (by rfl))))) (fin_rt rfl rfl (by exact Nat.le_of_ble_eq_true rfl))
def s_is_knot (a_thing : ((Int × Int) × (List Int))) : Option Bool :=
  
  
  (catS [a_thing.1.1, a_thing.1.2] a_thing.2).bind fun cat_1 => (mapS (fun (a_1 : Int) => (s_is_whole a_1).bind fun is_whole_1 => some is_whole_1) cat_1).bind fun l_1 => 
  some ((l_1).all id)
theorem R_is_knot (m : Nat) (hm : 2 ≤ m) (a_thing : ((Int × Int) × (List Int))) (v : Bool) (h : s_is_knot a_thing = some v) : callN prog.P m nf_is_knot [.fr ((eP2 (eP2 PyData.int PyData.int) (eT PyData.int)) a_thing)] = some (.fr (PyData.bool v), [.no]) := by
  obtain ⟨m, rfl⟩ : ∃ k, m = k + 1 := ⟨m - 1, by omega⟩
  rw [rf_is_knot]
  refine run_okV (W := fun (v : Bool) => .fr (PyData.bool v)) (F := fun (v : Bool) => [.no]) (v := v) rfl rfl rfl ?_
  refine k_env (r2 := [.fr ((eP2 (eP2 PyData.int PyData.int) (eT PyData.int)) a_thing), .no]) rfl ?_
  unfold s_is_knot at h
  refine k_if (t := ((!true) || (!decide ((2 : Int) = (2 : Int))))) (x_or (x_nt (x_isiK (x_bw rfl) rfl (by rfl))) (fun _ => (x_cmp (x_bt (y_cons (x_bw rfl) y_nil) rfl rfl) x_k rfl rfl (by exact (c_ne eqe_int (by decide) (2 : Int) (2 : Int)))))) (fun hb_1 => Bool.noConfusion (show false = true from hb_1)) (fun _ => ?_)
  refine k_pop ?_
  refine k_if (t := ((!true) || (!true))) (x_or (x_nt (x_isiK (x_ix (x_bw rfl) x_k rfl rfl rfl) rfl (by rfl))) (fun _ => (x_nt (x_isiK (x_ix (x_bw rfl) x_k rfl rfl rfl) rfl (by rfl))))) (fun hb_2 => Bool.noConfusion (show false = true from hb_2)) (fun _ => ?_)
  refine k_pop ?_
  obtain ⟨cat_1, h_cat_1, h⟩ := bnd h
  obtain ⟨l_1, h_l_1, h⟩ := bnd h
  cases h
  exact k_rt (x_bt (y_cons (x_lcM [.fr ((eP2 (eP2 PyData.int PyData.int) (eT PyData.int)) a_thing), .no] [.fr ((eP2 (eP2 PyData.int PyData.int) (eT PyData.int)) a_thing), .no] (ea := PyData.int) (eb := PyData.bool) (j_ov (x_bin (x_ix (x_bw rfl) x_k rfl rfl rfl) (x_ix (x_bw rfl) x_k rfl rfl rfl) rfl rfl (by exact (b_catT h_cat_1))) rfl (by exact it_T PyData.int cat_1) rfl) rfl rfl h_l_1 (fun a_1 b h => by obtain ⟨is_whole_1, h_is_whole_1, h⟩ := bnd h; cases h; exact lc_ok [.fr ((eP2 (eP2 PyData.int PyData.int) (eT PyData.int)) a_thing), .fr (PyData.int a_1)] rfl x_k (x_call0 (y_cons (x_bw rfl) y_nil) rfl rfl (R_is_whole m (by omega) _ _ h_is_whole_1) rfl (by rfl)) rfl rfl)) y_nil) rfl (by exact (f_all l_1))) (fin_rt rfl rfl (by exact Nat.le_of_ble_eq_true rfl))
def s_holds_parted (a_numbers : (List Int)) (a_thing : (List ((Int × Int) × (List Int)))) : Option Bool :=
  (orS (!true) ((mapS (fun (a_1 : ((Int × Int) × (List Int))) => (s_is_knot a_1).bind fun is_knot_1 => some is_knot_1) a_thing).bind fun l_1 => some (!((l_1).all id)))).bind fun both_1 => 
  if both_1 = true then 
  some false
  else (s_parted a_numbers).bind fun parted_1 => 
  some (decide (a_thing = parted_1))
theorem R_holds_parted (m : Nat) (hm : 4 ≤ m) (a_numbers : (List Int)) (a_thing : (List ((Int × Int) × (List Int)))) (v : Bool) (h : s_holds_parted a_numbers a_thing = some v) : callN prog.P m nf_holds_parted [.fr ((eL PyData.int) a_numbers), .fr ((eL (eP2 (eP2 PyData.int PyData.int) (eT PyData.int))) a_thing)] = some (.fr (PyData.bool v), [.no, .no]) := by
  obtain ⟨m, rfl⟩ : ∃ k, m = k + 1 := ⟨m - 1, by omega⟩
  rw [rf_holds_parted]
  refine run_okV (W := fun (v : Bool) => .fr (PyData.bool v)) (F := fun (v : Bool) => [.no, .no]) (v := v) rfl rfl rfl ?_
  refine k_env (r2 := [.fr ((eL PyData.int) a_numbers), .fr ((eL (eP2 (eP2 PyData.int PyData.int) (eT PyData.int))) a_thing), .no]) rfl ?_
  unfold s_holds_parted at h
  obtain ⟨both_1, h_both_1, h⟩ := bnd h
  refine k_if (x_orS h_both_1 (x_nt (x_isiK (x_bw rfl) rfl (by rfl))) (fun _ _ h => by obtain ⟨l_1, h_l_1, h⟩ := bnd h; cases h; exact (x_nt (x_bt (y_cons (x_lcM [.fr ((eL PyData.int) a_numbers), .fr ((eL (eP2 (eP2 PyData.int PyData.int) (eT PyData.int))) a_thing), .no] [.fr ((eL PyData.int) a_numbers), .fr ((eL (eP2 (eP2 PyData.int PyData.int) (eT PyData.int))) a_thing), .no] (ea := (eP2 (eP2 PyData.int PyData.int) (eT PyData.int))) (eb := PyData.bool) (j_ov (x_bw rfl) rfl (by exact it_L (eP2 (eP2 PyData.int PyData.int) (eT PyData.int)) a_thing) rfl) rfl rfl h_l_1 (fun a_1 b h => by obtain ⟨is_knot_1, h_is_knot_1, h⟩ := bnd h; cases h; exact lc_ok [.fr ((eL PyData.int) a_numbers), .fr ((eL (eP2 (eP2 PyData.int PyData.int) (eT PyData.int))) a_thing), .fr ((eP2 (eP2 PyData.int PyData.int) (eT PyData.int)) a_1)] rfl x_k (x_call0 (y_cons (x_bw rfl) y_nil) rfl rfl (R_is_knot m (by omega) _ _ h_is_knot_1) rfl (by rfl)) rfl rfl)) y_nil) rfl (by exact (f_all l_1)))))) (fun hb_1 => ?_) (fun hb_1 => ?_)
  · replace h := iteT hb_1 h
    cases h
    exact k_rt x_k (fin_rt rfl rfl (by exact Nat.le_of_ble_eq_true rfl))
  · replace h := iteF hb_1 h
    refine k_pop ?_
    obtain ⟨parted_1, h_parted_1, h⟩ := bnd h
    cases h
    exact k_rt (x_cmp (x_bw rfl) (x_call0 (y_cons (x_bw rfl) y_nil) rfl rfl (R_parted m (by omega) _ _ h_parted_1) rfl (by rfl)) rfl rfl (by exact (c_eq (eqe_L (eqe_P2 (eqe_P2 eqe_int eqe_int) (eqe_T eqe_int))) (by decide) a_thing parted_1))) (fin_rt rfl rfl (by exact Nat.le_of_ble_eq_true rfl))
def s_law_right (a_numbers : (List Int)) : Option Bool :=
  
  (rgS (2 : Int)).bind fun rg_1 => 
  (forR (ρ := Bool) (fun (s_1 : Unit) (a_1 : Int) => (s_worths a_numbers).bind fun worths_1 => 
  (s_parted a_numbers).bind fun parted_1 => 
  (reprS ((eL PyData.int) worths_1)).bind fun repr_1 => (s_law_worths a_numbers).bind fun worths_2 => (reprS ((eL PyData.int) worths_2)).bind fun repr_2 => (orS (!decide (repr_1 = repr_2)) ((reprS ((eL (eP2 (eP2 PyData.int PyData.int) (eT PyData.int))) parted_1)).bind fun repr_3 => (s_law_parting a_numbers).bind fun parting_1 => (reprS ((eL (eP2 (eP2 PyData.int PyData.int) (eT PyData.int))) parting_1)).bind fun repr_4 => some (!decide (repr_3 = repr_4)))).bind fun both_1 => 
  if both_1 = true then 
  some (Rr.rt false)
  else (s_holds_parted a_numbers parted_1).bind fun holds_parted_1 => 
  if (!(holds_parted_1 == true)) = true then 
  some (Rr.rt false)
  else (appS worths_1 (0 : Int)).bind fun some_1 => 
  
  some (Rr.nx ())) () rg_1).bind fun res_1 => onR res_1 (fun u => some u) fun t_1 =>
  
  if (!decide (a_numbers = a_numbers)) = true then 
  some false
  else (atS a_numbers (0 : Int)).bind fun at_1 => (setS a_numbers (-(1 : Int)) (at_1 + (1 : Int))).bind fun handed_1 => 
  
  (s_worths ((handed_1).reverse)).bind fun worths_3 => (reprS ((eL PyData.int) worths_3)).bind fun repr_5 => (s_law_worths ((handed_1).reverse)).bind fun worths_4 => (reprS ((eL PyData.int) worths_4)).bind fun repr_6 => (anS (decide (repr_5 = repr_6)) ((s_parted ((handed_1).reverse)).bind fun parted_2 => (reprS ((eL (eP2 (eP2 PyData.int PyData.int) (eT PyData.int))) parted_2)).bind fun repr_7 => (s_law_parting ((handed_1).reverse)).bind fun parting_2 => (reprS ((eL (eP2 (eP2 PyData.int PyData.int) (eT PyData.int))) parting_2)).bind fun repr_8 => some (decide (repr_7 = repr_8)))).bind fun both_2 => 
  some both_2
theorem R_law_right (m : Nat) (hm : 5 ≤ m) (a_numbers : (List Int)) (v : Bool) (h : s_law_right a_numbers = some v) : callN prog.P m nf_law_right [.fr ((eL PyData.int) a_numbers)] = some (.fr (PyData.bool v), [.no]) := by
  obtain ⟨m, rfl⟩ : ∃ k, m = k + 1 := ⟨m - 1, by omega⟩
  rw [rf_law_right]
  refine run_okV (W := fun (v : Bool) => .fr (PyData.bool v)) (F := fun (v : Bool) => [.no]) (v := v) rfl rfl rfl ?_
  refine k_env (r2 := [.fr ((eL PyData.int) a_numbers), .no, .no, .no, .no]) rfl ?_
  unfold s_law_right at h
  refine k_st (r1 := [.fr ((eL PyData.int) a_numbers), .ow ((eL PyData.int) a_numbers), .no, .no, .no]) ?_ ?_
  · exact t_as (x_bt (y_cons (x_bw rfl) y_nil) rfl rfl) rfl
  obtain ⟨rg_1, h_rg_1, h⟩ := bnd h
  obtain ⟨res_1, h_res_1, h⟩ := bnd h
  refine k_forR (r1 := [.fr ((eL PyData.int) a_numbers), .ow ((eL PyData.int) a_numbers), .no, .no, .no]) (hs := []) (E := fun (s_1 : Unit) => [.fr ((eL PyData.int) a_numbers), .ow ((eL PyData.int) a_numbers), .no, .no, .no]) (ea := PyData.int) (s0 := ()) (mk := (fun u => u)) (v := v) ?_ ?_ ?_ h_res_1 (fun s_1 a_1 R h => ?_) (fun t_1 e => ?_) (fun u e => by subst e; exact Option.some.inj h)
  · exact (j_rg (y_cons x_k y_nil) rfl (by exact (r_1 h_rg_1)))
  · rfl
  · rfl
  · clear h_res_1
    refine turn (r1 := [.fr ((eL PyData.int) a_numbers), .ow ((eL PyData.int) a_numbers), .fr (PyData.int a_1), .no, .no]) rfl ?_
    obtain ⟨worths_1, h_worths_1, h⟩ := bnd h
    refine k_st (r1 := [.fr ((eL PyData.int) a_numbers), .ow ((eL PyData.int) a_numbers), .fr (PyData.int a_1), .ow ((eL PyData.int) worths_1), .no]) ?_ ?_
    · exact t_as (x_callF (y_cons (x_bwo rfl) y_nil) rfl rfl (R_worths m (by omega) _ _ h_worths_1) rfl (flat_ow fle_int _) rfl) rfl
    obtain ⟨parted_1, h_parted_1, h⟩ := bnd h
    refine k_st (r1 := [.fr ((eL PyData.int) a_numbers), .ow ((eL PyData.int) a_numbers), .fr (PyData.int a_1), .ow ((eL PyData.int) worths_1), .ow ((eL (eP2 (eP2 PyData.int PyData.int) (eT PyData.int))) parted_1)]) ?_ ?_
    · exact t_as (x_callF (y_cons (x_bwo rfl) y_nil) rfl rfl (R_parted m (by omega) _ _ h_parted_1) rfl (flat_ow (fle_P2 (fle_P2 fle_int fle_int) (fle_T fle_int)) _) rfl) rfl
    obtain ⟨repr_1, h_repr_1, h⟩ := bnd h
    obtain ⟨worths_2, h_worths_2, h⟩ := bnd h
    obtain ⟨repr_2, h_repr_2, h⟩ := bnd h
    obtain ⟨both_1, h_both_1, h⟩ := bnd h
    refine k_if (x_orS h_both_1 (x_cmp (x_bt (y_cons (x_bwo rfl) y_nil) rfl (by exact (f_repr h_repr_1))) (x_bt (y_cons (x_call0 (y_cons (x_bw rfl) y_nil) rfl rfl (R_law_worths m (by omega) _ _ h_worths_2) rfl (by rfl)) y_nil) rfl (by exact (f_repr h_repr_2))) rfl rfl (by exact (c_ne eqe_str (by decide) repr_1 repr_2))) (fun _ _ h => by obtain ⟨repr_3, h_repr_3, h⟩ := bnd h; obtain ⟨parting_1, h_parting_1, h⟩ := bnd h; obtain ⟨repr_4, h_repr_4, h⟩ := bnd h; cases h; exact (x_cmp (x_bt (y_cons (x_bwo rfl) y_nil) rfl (by exact (f_repr h_repr_3))) (x_bt (y_cons (x_call0 (y_cons (x_bw rfl) y_nil) rfl rfl (R_law_parting m (by omega) _ _ h_parting_1) rfl (by rfl)) y_nil) rfl (by exact (f_repr h_repr_4))) rfl rfl (by exact (c_ne eqe_str (by decide) repr_3 repr_4))))) (fun hb_1 => ?_) (fun hb_1 => ?_)
    · replace h := iteT hb_1 h
      cases h
      exact k_rt x_k (nr_r (bk_r (fin_rt rfl rfl (by exact Nat.le_of_ble_eq_true rfl))))
    · replace h := iteF hb_1 h
      refine k_pop ?_
      obtain ⟨holds_parted_1, h_holds_parted_1, h⟩ := bnd h
      refine k_if (x_cmp (x_callF (y_cons (x_bwo rfl) (y_cons (x_bwo rfl) y_nil)) rfl rfl (R_holds_parted m (by omega) _ _ _ h_holds_parted_1) rfl (flat_fr fle_bool _) rfl) x_k rfl rfl rfl) (fun hb_2 => ?_) (fun hb_2 => ?_)
      · replace h := iteT hb_2 h
        cases h
        exact k_rt x_k (nr_r (bk_r (fin_rt rfl rfl (by exact Nat.le_of_ble_eq_true rfl))))
      · replace h := iteF hb_2 h
        refine k_pop ?_
        obtain ⟨some_1, h_some_1, h⟩ := bnd h
        refine k_st (r1 := [.fr ((eL PyData.int) a_numbers), .ow ((eL PyData.int) a_numbers), .fr (PyData.int a_1), .ow ((eL PyData.int) some_1), .ow ((eL (eP2 (eP2 PyData.int PyData.int) (eT PyData.int))) parted_1)]) ?_ ?_
        · exact t_ex (x_mu [.fr ((eL PyData.int) a_numbers), .ow ((eL PyData.int) a_numbers), .fr (PyData.int a_1), .ow ((eL PyData.int) some_1), .ow ((eL (eP2 (eP2 PyData.int PyData.int) (eT PyData.int))) parted_1)] rfl (y_cons x_k y_nil) rfl rfl (m_app (e := PyData.int) h_some_1) rfl)
        refine k_st (r1 := [.fr ((eL PyData.int) a_numbers), .ow ((eL PyData.int) a_numbers), .fr (PyData.int a_1), .ow ((eL PyData.int) some_1), .ow ((eL (eP2 (eP2 PyData.int PyData.int) (eT PyData.int))) ([] : (List ((Int × Int) × (List Int)))))]) ?_ ?_
        · exact t_ex (x_mu [.fr ((eL PyData.int) a_numbers), .ow ((eL PyData.int) a_numbers), .fr (PyData.int a_1), .ow ((eL PyData.int) some_1), .ow ((eL (eP2 (eP2 PyData.int PyData.int) (eT PyData.int))) ([] : (List ((Int × Int) × (List Int)))))] rfl y_nil rfl rfl (m_clear (eP2 (eP2 PyData.int PyData.int) (eT PyData.int)) parted_1) rfl)
        refine k_pop ?_
        cases h
        exact k_nil (nr_n rfl)
  subst e
  refine k_env (r2 := [.fr ((eL PyData.int) a_numbers), .ow ((eL PyData.int) a_numbers), .no, .no, .no]) rfl ?_
  refine k_if (x_cmp (x_bwo rfl) (x_bw rfl) rfl rfl (by exact (c_ne (eqe_L eqe_int) (by decide) a_numbers a_numbers))) (fun hb_3 => ?_) (fun hb_3 => ?_)
  · replace h := iteT hb_3 h
    cases h
    exact k_rt x_k (fin_rt rfl rfl (by exact Nat.le_of_ble_eq_true rfl))
  · replace h := iteF hb_3 h
    refine k_pop ?_
    obtain ⟨at_1, h_at_1, h⟩ := bnd h
    obtain ⟨handed_1, h_handed_1, h⟩ := bnd h
    refine k_st (r1 := [.fr ((eL PyData.int) a_numbers), .ow ((eL PyData.int) handed_1), .no, .no, .no]) ?_ ?_
    · exact t_sx (x_bin (x_ix (x_bw rfl) x_k rfl rfl (g_ixL (e := PyData.int) h_at_1)) x_k rfl rfl rfl) rfl rfl (x_neg x_k) rfl (p_setL (e := PyData.int) h_handed_1) rfl
    refine k_st (r1 := [.fr ((eL PyData.int) a_numbers), .ow ((eL PyData.int) ((handed_1).reverse)), .no, .no, .no]) ?_ ?_
    · exact t_ex (x_mu [.fr ((eL PyData.int) a_numbers), .ow ((eL PyData.int) ((handed_1).reverse)), .no, .no, .no] rfl y_nil rfl rfl (m_rev PyData.int handed_1) rfl)
    obtain ⟨worths_3, h_worths_3, h⟩ := bnd h
    obtain ⟨repr_5, h_repr_5, h⟩ := bnd h
    obtain ⟨worths_4, h_worths_4, h⟩ := bnd h
    obtain ⟨repr_6, h_repr_6, h⟩ := bnd h
    obtain ⟨both_2, h_both_2, h⟩ := bnd h
    cases h
    exact k_rt (x_anS h_both_2 (x_cmp (x_bt (y_cons (x_callF (y_cons (x_bwo rfl) y_nil) rfl rfl (R_worths m (by omega) _ _ h_worths_3) rfl (flat_ow fle_int _) rfl) y_nil) rfl (by exact (f_repr h_repr_5))) (x_bt (y_cons (x_callF (y_cons (x_bwo rfl) y_nil) rfl rfl (R_law_worths m (by omega) _ _ h_worths_4) rfl (flat_ow fle_int _) rfl) y_nil) rfl (by exact (f_repr h_repr_6))) rfl rfl (by exact (c_eq eqe_str (by decide) repr_5 repr_6))) (fun _ _ h => by obtain ⟨parted_2, h_parted_2, h⟩ := bnd h; obtain ⟨repr_7, h_repr_7, h⟩ := bnd h; obtain ⟨parting_2, h_parting_2, h⟩ := bnd h; obtain ⟨repr_8, h_repr_8, h⟩ := bnd h; cases h; exact (x_cmp (x_bt (y_cons (x_callF (y_cons (x_bwo rfl) y_nil) rfl rfl (R_parted m (by omega) _ _ h_parted_2) rfl (flat_ow (fle_P2 (fle_P2 fle_int fle_int) (fle_T fle_int)) _) rfl) y_nil) rfl (by exact (f_repr h_repr_7))) (x_bt (y_cons (x_callF (y_cons (x_bwo rfl) y_nil) rfl rfl (R_law_parting m (by omega) _ _ h_parting_2) rfl (flat_ow (fle_P2 (fle_P2 fle_int fle_int) (fle_T fle_int)) _) rfl) y_nil) rfl (by exact (f_repr h_repr_8))) rfl rfl (by exact (c_eq eqe_str (by decide) repr_7 repr_8))))) (fin_rt rfl rfl (by exact Nat.le_of_ble_eq_true rfl))
def s_law (a_script : (List Int)) : Option Bool :=
  (rgS (max (3 : Int) (min (6 : Int) ((a_script).length : Int)))).bind fun rg_1 => 
  (forR (ρ := Bool) (fun (s_1 : Unit) (a_1 : Int) => (s_law_pen a_script a_1).bind fun pen_1 => 
  (s_law_draw pen_1 (8 : Int)).bind fun draw_1 => (atS [(14 : Int), (120 : Int)] (if ((decide (draw_1.1 = (7 : Int))) && (decide (a_1 = (0 : Int)))) = true then (1 : Int) else 0)).bind fun at_1 => 
  (s_law_row draw_1.2 at_1).bind fun row_1 => 
  (s_law_draw row_1.2 (4 : Int)).bind fun draw_2 => 
  ((if (decide (draw_2.1 = (0 : Int))) = true then (mapS (fun (a_2 : (Int × Int)) => some ((a_2.2 * (7 : Int)) + a_2.1)) (enumS 0 row_1.1)).bind fun l_1 => 
  some l_1 else some row_1.1 : Option ((List Int)))).bind fun j_1 =>
  (s_law_right j_1).bind fun right_1 => 
  if (!right_1) = true then 
  some (Rr.rt false)
  else some (Rr.nx ())) () rg_1).bind fun res_1 => onR res_1 (fun u => some u) fun t_1 =>
  
  some true
theorem R_law (m : Nat) (hm : 6 ≤ m) (a_script : (List Int)) (v : Bool) (h : s_law a_script = some v) : callN prog.P m nf_law [.fr ((eL PyData.int) a_script)] = some (.fr (PyData.bool v), [.no]) := by
  obtain ⟨m, rfl⟩ : ∃ k, m = k + 1 := ⟨m - 1, by omega⟩
  rw [rf_law]
  refine run_okV (W := fun (v : Bool) => .fr (PyData.bool v)) (F := fun (v : Bool) => [.no]) (v := v) rfl rfl rfl ?_
  refine k_env (r2 := [.fr ((eL PyData.int) a_script), .no, .no, .no, .no, .no, .no]) rfl ?_
  unfold s_law at h
  obtain ⟨rg_1, h_rg_1, h⟩ := bnd h
  obtain ⟨res_1, h_res_1, h⟩ := bnd h
  refine k_forR (r1 := [.fr ((eL PyData.int) a_script), .no, .no, .no, .no, .no, .no]) (hs := []) (E := fun (s_1 : Unit) => [.fr ((eL PyData.int) a_script), .no, .no, .no, .no, .no, .no]) (ea := PyData.int) (s0 := ()) (mk := (fun u => u)) (v := v) ?_ ?_ ?_ h_res_1 (fun s_1 a_1 R h => ?_) (fun t_1 e => ?_) (fun u e => by subst e; exact Option.some.inj h)
  · exact (j_rg (y_cons (x_bt (y_cons x_k (y_cons (x_bt (y_cons x_k (y_cons (x_bt (y_cons (x_bw rfl) y_nil) rfl (by exact (f_lenL PyData.int a_script))) y_nil)) rfl rfl) y_nil)) rfl rfl) y_nil) rfl (by exact (r_1 h_rg_1)))
  · rfl
  · rfl
  · clear h_res_1
    refine turn (r1 := [.fr ((eL PyData.int) a_script), .fr (PyData.int a_1), .no, .no, .no, .no, .no]) rfl ?_
    obtain ⟨pen_1, h_pen_1, h⟩ := bnd h
    refine k_st (r1 := [.fr ((eL PyData.int) a_script), .fr (PyData.int a_1), .ow ((eH3 PyData.int PyData.int PyData.int) pen_1), .no, .no, .no, .no]) ?_ ?_
    · exact t_as (x_call0 (y_cons (x_bw rfl) (y_cons (x_bw rfl) y_nil)) rfl rfl (R_law_pen m (by omega) _ _ _ h_pen_1) rfl (by rfl)) rfl
    obtain ⟨draw_1, h_draw_1, h⟩ := bnd h
    obtain ⟨at_1, h_at_1, h⟩ := bnd h
    refine k_st (r1 := [.fr ((eL PyData.int) a_script), .fr (PyData.int a_1), .ow ((eH3 PyData.int PyData.int PyData.int) draw_1.2), .fr (PyData.int at_1), .no, .no, .no]) ?_ ?_
    · exact t_as (x_ix (x_lst (y_cons x_k (y_cons x_k y_nil)) rfl (by exact sz_2)) (x_bt (y_cons (x_an (x_cmp (x_call [.fr ((eL PyData.int) a_script), .fr (PyData.int a_1), .ow ((eH3 PyData.int PyData.int PyData.int) draw_1.2), .no, .no, .no, .no] (y_cons (x_ln rfl) (y_cons x_k y_nil)) rfl rfl (R_law_draw m (by omega) _ _ _ h_draw_1) rfl (by rfl) (by rfl)) x_k rfl rfl (by exact (c_eq eqe_int (by decide) draw_1.1 (7 : Int)))) (fun _ => (x_cmp (x_bw rfl) x_k rfl rfl (by exact (c_eq eqe_int (by decide) a_1 (0 : Int)))))) y_nil) rfl rfl) rfl rfl (g_ixL (e := PyData.int) h_at_1)) rfl
    obtain ⟨row_1, h_row_1, h⟩ := bnd h
    refine k_st (r1 := [.fr ((eL PyData.int) a_script), .fr (PyData.int a_1), .ow ((eH3 PyData.int PyData.int PyData.int) row_1.2), .fr (PyData.int at_1), .ow ((eL PyData.int) row_1.1), .no, .no]) ?_ ?_
    · exact t_as (x_call [.fr ((eL PyData.int) a_script), .fr (PyData.int a_1), .ow ((eH3 PyData.int PyData.int PyData.int) row_1.2), .fr (PyData.int at_1), .no, .no, .no] (y_cons (x_ln rfl) (y_cons (x_bw rfl) y_nil)) rfl rfl (R_law_row m (by omega) _ _ _ h_row_1) rfl (by rfl) (by rfl)) rfl
    obtain ⟨draw_2, h_draw_2, h⟩ := bnd h
    obtain ⟨j_1, h_j_1, h⟩ := bnd h
    refine k_ifJ (env := fun (z : Unit) => [.fr ((eL PyData.int) a_script), .fr (PyData.int a_1), .ow ((eH3 PyData.int PyData.int PyData.int) draw_2.2), .fr (PyData.int at_1), .ow ((eL PyData.int) j_1), .no, .no]) (x_cmp (x_call [.fr ((eL PyData.int) a_script), .fr (PyData.int a_1), .ow ((eH3 PyData.int PyData.int PyData.int) draw_2.2), .fr (PyData.int at_1), .ow ((eL PyData.int) row_1.1), .no, .no] (y_cons (x_ln rfl) (y_cons x_k y_nil)) rfl rfl (R_law_draw m (by omega) _ _ _ h_draw_2) rfl (by rfl) (by rfl)) x_k rfl rfl (by exact (c_eq eqe_int (by decide) draw_2.1 (0 : Int)))) (fun hb_1 => ?_) (fun hb_1 => ?_) (fun z => ?_)
    · replace h := iteT hb_1 h_j_1
      clear h_j_1
      obtain ⟨l_1, h_l_1, h⟩ := bnd h
      refine k_st (r1 := [.fr ((eL PyData.int) a_script), .fr (PyData.int a_1), .ow ((eH3 PyData.int PyData.int PyData.int) draw_2.2), .fr (PyData.int at_1), .ow ((eL PyData.int) l_1), .no, .no]) ?_ ?_
      · exact t_as (x_lcM [.fr ((eL PyData.int) a_script), .fr (PyData.int a_1), .ow ((eH3 PyData.int PyData.int PyData.int) draw_2.2), .fr (PyData.int at_1), .no, .no, .no] [.fr ((eL PyData.int) a_script), .fr (PyData.int a_1), .ow ((eH3 PyData.int PyData.int PyData.int) draw_2.2), .fr (PyData.int at_1), .ow ((eL PyData.int) row_1.1), .no, .no] (ea := (eP2 PyData.int PyData.int)) (eb := PyData.int) (j_en (x_bwo rfl) rfl (by exact n_L PyData.int row_1.1) rfl) rfl rfl h_l_1 (fun a_2 b h => by cases h; exact lc_ok [.fr ((eL PyData.int) a_script), .fr (PyData.int a_1), .ow ((eH3 PyData.int PyData.int PyData.int) draw_2.2), .fr (PyData.int at_1), .no, .fr (PyData.int a_2.1), .fr (PyData.int a_2.2)] rfl x_k (x_bin (x_bin (x_bw rfl) x_k rfl rfl (by exact (b_mulr (by decide)))) (x_bw rfl) rfl rfl rfl) rfl rfl)) rfl
      refine k_pop ?_
      cases h
      exact k_nil ⟨(), rfl⟩
    · replace h := iteF hb_1 h_j_1
      clear h_j_1
      refine k_pop ?_
      cases h
      exact k_nil ⟨(), rfl⟩
    obtain ⟨right_1, h_right_1, h⟩ := bnd h
    refine k_if (x_nt (x_callF (y_cons (x_bwo rfl) y_nil) rfl rfl (R_law_right m (by omega) _ _ h_right_1) rfl (flat_fr fle_bool _) rfl)) (fun hb_2 => ?_) (fun hb_2 => ?_)
    · replace h := iteT hb_2 h
      cases h
      exact k_rt x_k (nr_r (bk_r (fin_rt rfl rfl (by exact Nat.le_of_ble_eq_true rfl))))
    · replace h := iteF hb_2 h
      refine k_pop ?_
      refine k_pop ?_
      cases h
      exact k_nil (nr_n rfl)
  subst e
  refine k_env (r2 := [.fr ((eL PyData.int) a_script), .no, .no, .no, .no, .no, .no]) rfl ?_
  cases h
  exact k_rt x_k (fin_rt rfl rfl (by exact Nat.le_of_ble_eq_true rfl))
end Lw

set_option Elab.async false
set_option linter.all false
set_option maxRecDepth 100000
set_option autoImplicit false
set_option maxHeartbeats 4000000
namespace Lw
open PySem PySem.W Bx
/-! ### the pen -/
theorem pw_29 : pw 10 29 = 100000000000000000000000000000 := by decide
theorem draw_ok (st : Int × Int × Int) (n : Int) (h0 : 0 < n) (h1 : n < 1073741824) : Tr (s_law_draw st n) fun r => 0 ≤ r.1 ∧ r.1 < n := by
  have fin : ∀ x : Int, 0 ≤ x % n ∧ x % n < n := fun x => ⟨Int.emod_nonneg _ (by omega), Int.emod_lt_of_pos _ h0⟩
  unfold s_law_draw
  refine Tr.ite (fun _ => ?_) fun _ => ?_
  · exact Tr.eq (mod_ok h0) (Tr.eq (fdiv_ok h0 h1) (Tr.some (fin _)))
  · refine Tr.bind (P := fun x => 0 ≤ x ∧ x < 2147483647) (Tr.some ⟨Int.emod_nonneg _ (by decide), Int.emod_lt_of_pos _ (by decide)⟩) fun x hx => ?_
    refine Tr.eq (mul_l (by omega) (by omega)) (Tr.bind (P := fun _ => True) (Tr.some trivial) fun y _ => ?_)
    exact Tr.eq (mod_ok h0) (Tr.some (fin _))
theorem pen_ok (script : List Int) (k : Int) : Tr (s_law_pen script k) fun _ => True := by
  unfold s_law_pen
  refine Tr.bind (P := fun _ => True) (Tr.ite (fun hl => ?_) fun _ => Tr.some trivial) fun j _ => Tr.ite (fun _ => Tr.some trivial) fun _ => Tr.some trivial
  have hl : 0 < (script.length : Int) := of_decide_eq_true hl
  exact Tr.eq (mod_ok hl) (Tr.bind (Tr.at (Q := fun _ => True) (Int.emod_nonneg _ (by omega)) (Int.emod_lt_of_pos _ hl) fun _ _ => trivial) fun _ _ => Tr.some trivial)
/-- numbers of so many figures -/
def Fig (x : Int) : Prop := -200000000000000000000000000000 ≤ x ∧ x ≤ 200000000000000000000000000000
theorem number_ok (st : Int × Int × Int) : Tr (s_law_number st) fun r => Fig r.1 := by
  unfold s_law_number
  refine Tr.bind (draw_ok _ _ (by decide) (by decide)) fun a ha => ?_
  refine Tr.ite (fun _ => ?_) fun _ => Tr.ite (fun _ => ?_) fun _ => ?_
  · refine Tr.bind (draw_ok _ _ (by decide) (by decide)) fun b hb => Tr.bind (draw_ok _ _ (by decide) (by decide)) fun c hc => ?_
    refine Tr.eq (mul_r (by omega) (by omega)) (Tr.some ?_)
    have : c.1 = 0 ∨ c.1 = 1 := by omega
    show _ ≤ (pw 10 29 + b.1) * (1 - 2 * c.1) ∧ (pw 10 29 + b.1) * (1 - 2 * c.1) ≤ _
    rw [pw_29]
    rcases this with e | e <;> rw [e] <;> omega
  · exact Tr.bind (draw_ok _ _ (by decide) (by decide)) fun b hb => Tr.some (show _ ≤ b.1 - 1000 ∧ b.1 - 1000 ≤ _ by omega)
  · exact Tr.bind (draw_ok _ _ (by decide) (by decide)) fun b hb => Tr.some (show _ ≤ b.1 - 3 ∧ b.1 - 3 ≤ _ by omega)
theorem row_ok (st : Int × Int × Int) (n : Int) (h0 : 1 ≤ n) (h1 : n ≤ 120) : Tr (s_law_row st n) fun r => (0 < r.1.length ∧ r.1.length ≤ 120) ∧ ∀ x ∈ r.1, Fig x := by
  unfold s_law_row
  refine Tr.bind (draw_ok _ _ (by omega) (by omega)) fun a ha => ?_
  refine Tr.eq (rg_ok (by omega) (by omega)) ?_
  refine Tr.bind (Tr.mapT (fun _ => True) (fun _ x => Fig x) (by rw [List.length_map, List.length_range]; omega) trivial fun x _ s hs => ?_) fun l hl => ?_
  · exact Tr.bind (number_ok _) fun r hr => Tr.some ⟨hr, trivial⟩
  have len := hl.1.len
  rw [List.length_map, List.length_range] at len
  exact Tr.some ⟨by show 0 < l.1.length ∧ l.1.length ≤ 120; omega, hl.1.right fun _ _ _ h => h⟩
/-! ### dicts by places -/
theorem dg_map {α β : Type} [DecidableEq α] (F : α → β) (k : α) : ∀ l : List α, dgS (l.map fun q => (q, F q)) k = if k ∈ l then some (F k) else none
  | [] => rfl
  | a :: l => by
    rw [List.map_cons]
    unfold dgS
    rw [List.find?_cons]
    by_cases z : a = k
    · subst z
      simp
    · rw [decide_eq_false z]
      have ih := dg_map F k l
      unfold dgS at ih
      rw [ih]
      have z' : ¬ k = a := fun e => z e.symm
      simp [z']
theorem dm_go {α β : Type} [DecidableEq α] (F : α → β) : ∀ (l pre : List α), (pre ++ l).Nodup → (l.map fun q => (q, F q)).foldl (fun acc p => dpS acc p.1 p.2) (pre.map fun q => (q, F q)) = (pre ++ l).map fun q => (q, F q)
  | [], pre, _ => by simp
  | a :: l, pre, h => by
    rw [List.map_cons, List.foldl_cons]
    have hn : a ∉ pre := fun m => (List.nodup_append.mp h).2.2 a m a List.mem_cons_self rfl
    have e : dpS (pre.map fun q => (q, F q)) a (F a) = (pre ++ [a]).map fun q => (q, F q) := by
      unfold dpS
      rw [dg_map, if_neg hn, List.map_append]
      rfl
    show (l.map fun q => (q, F q)).foldl _ (dpS (pre.map fun q => (q, F q)) a (F a)) = _
    rw [e, dm_go F l (pre ++ [a]) (by simpa using h)]
    simp
theorem dm_map {α β : Type} [DecidableEq α] (F : α → β) (l : List α) (h : l.Nodup) : dmS (l.map fun q => (q, F q)) = l.map fun q => (q, F q) := dm_go F l [] (by simpa using h)
/-! ### stretches -/
def tr (lo hi : Int) : List (Int × Int) := if lo < hi then (lo, hi) :: (tr lo ((lo + hi) / 2) ++ tr ((lo + hi) / 2 + 1) hi) else [(lo, hi)]
termination_by (hi - lo).toNat
decreasing_by all_goals omega
def trs (l : List (Int × Int)) : List (Int × Int) := l.flatMap fun p => tr p.1 p.2
theorem tr_lt {lo hi : Int} (h : lo < hi) : tr lo hi = (lo, hi) :: (tr lo ((lo + hi) / 2) ++ tr ((lo + hi) / 2 + 1) hi) := by rw [tr, if_pos h]
theorem tr_ge {lo hi : Int} (h : ¬ lo < hi) : tr lo hi = [(lo, hi)] := by rw [tr, if_neg h]
theorem tr_pos (lo hi : Int) : 0 < (tr lo hi).length := by
  by_cases h : lo < hi
  · rw [tr_lt h]; simp
  · rw [tr_ge h]; simp
theorem tr_len (lo hi : Int) (h : lo ≤ hi) : ((tr lo hi).length : Int) = 2 * (hi - lo) + 1 := by
  by_cases hl : lo < hi
  · have h1 := tr_len lo ((lo + hi) / 2) (by omega)
    have h2 := tr_len ((lo + hi) / 2 + 1) hi (by omega)
    rw [tr_lt hl, List.length_cons, List.length_append]
    push_cast
    omega
  · rw [tr_ge hl]
    simp
    omega
termination_by (hi - lo).toNat
decreasing_by all_goals omega
theorem tr_mem (lo hi : Int) (h : lo ≤ hi) : ∀ p ∈ tr lo hi, lo ≤ p.1 ∧ p.1 ≤ p.2 ∧ p.2 ≤ hi := by
  intro p hp
  by_cases hl : lo < hi
  · rw [tr_lt hl] at hp
    rcases List.mem_cons.mp hp with rfl | hp
    · exact ⟨Int.le_refl _, h, Int.le_refl _⟩
    · rcases List.mem_append.mp hp with hp | hp
      · have := tr_mem lo ((lo + hi) / 2) (by omega) p hp
        omega
      · have := tr_mem ((lo + hi) / 2 + 1) hi (by omega) p hp
        omega
  · rw [tr_ge hl] at hp
    have := List.mem_singleton.mp hp
    subst this
    exact ⟨Int.le_refl _, h, Int.le_refl _⟩
termination_by (hi - lo).toNat
decreasing_by all_goals omega
theorem trs_ge (l : List (Int × Int)) : l.length ≤ (trs l).length := by
  induction l with
  | nil => exact Nat.zero_le _
  | cons p l ih =>
    have := tr_pos p.1 p.2
    show l.length + 1 ≤ (tr p.1 p.2 ++ trs l).length
    rw [List.length_append]
    omega
theorem trs_cons (p : Int × Int) (l : List (Int × Int)) : trs (p :: l) = tr p.1 p.2 ++ trs l := rfl
theorem trs_nil : trs [] = [] := rfl
theorem trs_app (l m : List (Int × Int)) : trs (l ++ m) = trs l ++ trs m := by
  unfold trs
  rw [List.flatMap_append]
/-- the halves of a stretch are stretches -/
theorem tr_halves (lo hi : Int) (h : lo ≤ hi) : ∀ p ∈ tr lo hi, p.1 < p.2 → (p.1, (p.1 + p.2) / 2) ∈ tr lo hi ∧ ((p.1 + p.2) / 2 + 1, p.2) ∈ tr lo hi := by
  have own : ∀ a b : Int, (a, b) ∈ tr a b := fun a b => by
    by_cases h : a < b
    · rw [tr_lt h]; exact List.mem_cons_self
    · rw [tr_ge h]; exact List.mem_singleton.mpr rfl
  intro p hp hlt
  by_cases hl : lo < hi
  · rw [tr_lt hl] at hp ⊢
    rcases List.mem_cons.mp hp with rfl | hp
    · exact ⟨List.mem_cons_of_mem _ (List.mem_append_left _ (own _ _)), List.mem_cons_of_mem _ (List.mem_append_right _ (own _ _))⟩
    · rcases List.mem_append.mp hp with hp | hp
      · have := tr_halves lo ((lo + hi) / 2) (by omega) p hp hlt
        exact ⟨List.mem_cons_of_mem _ (List.mem_append_left _ this.1), List.mem_cons_of_mem _ (List.mem_append_left _ this.2)⟩
      · have := tr_halves ((lo + hi) / 2 + 1) hi (by omega) p hp hlt
        exact ⟨List.mem_cons_of_mem _ (List.mem_append_right _ this.1), List.mem_cons_of_mem _ (List.mem_append_right _ this.2)⟩
  · rw [tr_ge hl] at hp
    have := List.mem_singleton.mp hp
    subst this
    exact (hl hlt).elim
termination_by (hi - lo).toNat
decreasing_by all_goals omega
theorem tr_nodup (lo hi : Int) (h : lo ≤ hi) : (tr lo hi).Nodup := by
  by_cases hl : lo < hi
  · have n1 := tr_nodup lo ((lo + hi) / 2) (by omega)
    have n2 := tr_nodup ((lo + hi) / 2 + 1) hi (by omega)
    have m1 := tr_mem lo ((lo + hi) / 2) (by omega)
    have m2 := tr_mem ((lo + hi) / 2 + 1) hi (by omega)
    rw [tr_lt hl]
    refine List.nodup_cons.mpr ⟨fun m => ?_, List.nodup_append.mpr ⟨n1, n2, fun a ha b hb e => ?_⟩⟩
    · rcases List.mem_append.mp m with m | m
      · have := m1 _ m
        simp only at this
        omega
      · have := m2 _ m
        simp only at this
        omega
    · subst e
      have a1 := m1 _ ha
      have a2 := m2 _ hb
      omega
  · rw [tr_ge hl]
    simp
termination_by (hi - lo).toNat
decreasing_by all_goals omega
/-- the stretches of a side, sorted -/
def ST (s : Int) : List (Int × Int) := sortL (tr 0 (s - 1))
theorem ST_mem {s : Int} (h : 1 ≤ s) (p : Int × Int) : p ∈ ST s ↔ p ∈ tr 0 (s - 1) := (sortL_perm _).mem_iff
theorem ST_len {s : Int} (h : 1 ≤ s) : ((ST s).length : Int) = 2 * s - 1 := by
  have := tr_len 0 (s - 1) (by omega)
  unfold ST
  rw [(sortL_perm _).length_eq]
  omega
theorem ST_nodup {s : Int} (h : 1 ≤ s) : (ST s).Nodup := (sortL_perm _).nodup_iff.mpr (tr_nodup 0 (s - 1) (by omega))
theorem ST_in {s : Int} (h : 1 ≤ s) {p : Int × Int} (hp : p ∈ ST s) : 0 ≤ p.1 ∧ p.1 ≤ p.2 ∧ p.2 ≤ s - 1 := tr_mem 0 (s - 1) (by omega) p ((ST_mem h p).mp hp)
theorem srt_ii {l : List (Int × Int)} (hz : l.length ≤ 16777216) : srtS (eP2 PyData.int PyData.int) l = some (sortL l) := srt_lin (fun _ => rfl) hz (by decide) (.inl fun a _ => ⟨_, _, rfl⟩)
theorem stretches_eq (side : Int) (h1 : 1 ≤ side) (h2 : side ≤ 1000) : s_stretches side = some (ST side) := by
  have hN := tr_len 0 (side - 1) (by omega)
  unfold s_stretches
  rw [Option.bind_some]
  refine Tr.is ?_
  refine Tr.bind (P := fun t : List (Int × Int) × Int => t.1.Perm (tr 0 (side - 1))) ?_ fun t ht => ?_
  · refine Tr.wh (fun s => ∃ done wait : List (Int × Int), s = (done ++ wait, (done.length : Int)) ∧ (done ++ trs wait).Perm (tr 0 (side - 1))) (fun s => (tr 0 (side - 1)).length - s.2.toNat) ?_ TURNS ⟨[], [(0, side - 1)], rfl, by simp [trs]⟩ ?_
    · rintro s ⟨done, wait, rfl, hp⟩
      have hlen := hp.length_eq
      rw [List.length_append] at hlen
      have hw := trs_ge wait
      refine Tr.some ⟨fun hb => ?_, fun hb => ?_⟩
      · have hb : (done.length : Int) < ((done ++ wait).length : Int) := of_decide_eq_true hb
        rw [List.length_append] at hb
        cases wait with
        | nil => simp at hb
        | cons p wait =>
          obtain ⟨lo, hi⟩ := p
          rw [trs_cons, List.length_append] at hlen
          have hlen : done.length + ((tr lo hi).length + (trs wait).length) = (tr 0 (side - 1)).length := hlen
          rw [List.length_cons] at hw
          have hp1 := tr_pos lo hi
          have ea : atS (done ++ (lo, hi) :: wait) (done.length : Int) = some (lo, hi) := by rw [at_nat]; simp
          refine Tr.eq ea ?_
          have ed : ((done.length : Int) + 1) = ((done ++ [(lo, hi)]).length : Int) := by simp
          by_cases hlt : lo < hi
          · have tl := tr_lt hlt
            have hc : (tr lo hi).length = (tr lo ((lo + hi) / 2)).length + (tr ((lo + hi) / 2 + 1) hi).length + 1 := by rw [tl]; simp
            rw [trs_cons, List.length_append] at hw
            refine Tr.bind (P := fun j => j = done ++ (lo, hi) :: wait ++ [(lo, (lo + hi) / 2), ((lo + hi) / 2 + 1, hi)]) ?_ fun j hj => ?_
            · rw [if_pos (decide_eq_true hlt)]
              refine Tr.eq (show s_halved lo hi = some ((lo + hi) / 2) from rfl) (Tr.eq (cat_ok ?_) (Tr.some rfl))
              simp
              omega
            · subst hj
              refine Tr.some ⟨⟨done ++ [(lo, hi)], wait ++ [(lo, (lo + hi) / 2), ((lo + hi) / 2 + 1, hi)], ?_, ?_⟩, ?_⟩
              · rw [← ed]
                simp
              · refine List.Perm.trans ?_ hp
                simp only [trs_cons, trs_app, tl, trs_nil, List.append_nil, List.append_assoc, List.singleton_append, List.cons_append, List.nil_append]
                refine List.Perm.append_left _ (List.Perm.cons _ ?_)
                rw [← List.append_assoc (tr lo ((lo + hi) / 2))]
                exact List.perm_append_comm
              · show (tr 0 (side - 1)).length - ((done.length : Int) + 1).toNat < (tr 0 (side - 1)).length - (done.length : Int).toNat
                have e1 : ((done.length : Int) + 1).toNat = done.length + 1 := by omega
                have e2 : (done.length : Int).toNat = done.length := by omega
                rw [e1, e2]
                omega
          · have tl := tr_ge hlt
            refine Tr.bind (P := fun j => j = done ++ (lo, hi) :: wait) ?_ fun j hj => ?_
            · rw [if_neg (by simpa using hlt)]
              exact Tr.some rfl
            · subst hj
              refine Tr.some ⟨⟨done ++ [(lo, hi)], wait, ?_, ?_⟩, ?_⟩
              · rw [← ed]
                simp
              · refine List.Perm.trans ?_ hp
                simp [trs_cons, tl]
              · show (tr 0 (side - 1)).length - ((done.length : Int) + 1).toNat < (tr 0 (side - 1)).length - (done.length : Int).toNat
                have e1 : ((done.length : Int) + 1).toNat = done.length + 1 := by omega
                have e2 : (done.length : Int).toNat = done.length := by omega
                rw [e1, e2]
                omega
      · have hb : ¬ (done.length : Int) < ((done ++ wait).length : Int) := of_decide_eq_false hb
        rw [List.length_append] at hb
        have : wait = [] := by
          cases wait with
          | nil => rfl
          | cons p w => rw [List.length_cons] at hb; omega
        subst this
        simpa [trs] using hp
    · show (tr 0 (side - 1)).length - (0 : Int).toNat < TURNS
      have : TURNS = 100000 := rfl
      omega
  · have hz := ht.length_eq
    refine Tr.eq (srt_ii (by omega)) (Tr.some ?_)
    exact sortL_congr ht
theorem pop_last {α : Type} (xs : List α) (y : α) : popS (xs ++ [y]) = some (y, xs) := by
  unfold popS
  simp
/-! ### worths -/
theorem ss_ok {ns : List Int} (h : ns.length < 4000) : ssS ns = some (ssL ns) := by unfold ssS; rw [if_pos h]
theorem worths_eq (ns : List Int) (h : ns.length ≤ 1000) : s_worths ns = some (ssL ns) := by
  unfold s_worths
  rw [ss_ok (by omega)]
  rfl
theorem ssL_len : ∀ ns : List Int, (ssL ns).length ≤ ns.length
  | [] => Nat.le_refl _
  | x :: ns => by
    have go : ∀ l : List Int, (onceI x l).length ≤ l.length + 1 := by
      intro l
      induction l with
      | nil => simp [onceI]
      | cons y l ih =>
        unfold onceI
        split
        · simp
        · split
          · simp
          · simp only [List.length_cons]; omega
    have := go (ssL ns)
    have := ssL_len ns
    show (onceI x (ssL ns)).length ≤ ns.length + 1
    omega
theorem ssL_pos {ns : List Int} (h : 0 < ns.length) : 0 < (ssL ns).length := by
  cases ns with
  | nil => simp at h
  | cons x ns =>
    have := (ssL_mem (x :: ns) x).mpr List.mem_cons_self
    exact List.length_pos_of_mem this
theorem at_last {α : Type} (l : List α) (x : α) : atS (l ++ [x]) (-(1 : Int)) = some x := by
  unfold atS L2.atI L2.ixN
  rw [if_neg (by decide), if_pos (by rw [List.length_append, List.length_singleton]; omega)]
  show (l ++ [x])[(-(1 : Int) + ((l ++ [x]).length : Int)).toNat]? = _
  rw [show (-(1 : Int) + ((l ++ [x]).length : Int)).toNat = l.length by rw [List.length_append, List.length_singleton]; omega]
  simp
/-- numbers that rise, each once -/
theorem once_for (ns : List Int) (h : ns.length ≤ 1000) (hs : ns.Pairwise (· ≤ ·)) : Tr (forS (fun (s_1 : (List Int)) (a_1 : Int) => (orS (decide (s_1 = [])) ((atS s_1 (-(1 : Int))).bind fun at_1 => some (!decide (at_1 = a_1)))).bind fun both_1 =>
  if both_1 = true then (appS s_1 a_1).bind fun found_1 =>
  some found_1
  else some s_1) ([] : (List Int)) ns) fun r => r = ssL ns := by
  refine Tr.mono (Tr.for (fun (l : List Int) (s : List Int) => ∃ pre, pre ++ l = ns ∧ s.length ≤ pre.length ∧ s.Pairwise (· < ·) ∧ ∀ x, x ∈ s ↔ x ∈ pre) ⟨[], rfl, Nat.le_refl _, List.Pairwise.nil, fun _ => Iff.rfl⟩ ?_) ?_
  · rintro a l s ⟨pre, e, hl, h1, h2⟩
    have hlen := congrArg List.length e
    rw [List.length_append, List.length_cons] at hlen
    have le : ∀ x ∈ pre, x ≤ a := fun x hx => by
      rw [← e] at hs
      exact (List.pairwise_append.mp hs).2.2 x hx a List.mem_cons_self
    have step : ∀ s' : List Int, s'.length ≤ pre.length + 1 → s'.Pairwise (· < ·) → (∀ x, x ∈ s' ↔ x ∈ pre ∨ x = a) → ∃ pre, pre ++ l = ns ∧ s'.length ≤ pre.length ∧ s'.Pairwise (· < ·) ∧ ∀ x, x ∈ s' ↔ x ∈ pre := fun s' g1 g2 g3 =>
      ⟨pre ++ [a], by rw [← e]; simp, by rw [List.length_append, List.length_singleton]; exact g1, g2, fun x => by rw [g3, List.mem_append, List.mem_singleton]⟩
    have app : (∀ x ∈ s, x < a) → Tr ((appS s a).bind fun found_1 => some found_1) fun s' => ∃ pre, pre ++ l = ns ∧ s'.length ≤ pre.length ∧ s'.Pairwise (· < ·) ∧ ∀ x, x ∈ s' ↔ x ∈ pre := fun hlt => by
      refine Tr.eq (app_ok (by omega)) (Tr.some (step _ (by rw [List.length_append, List.length_singleton]; omega) (List.pairwise_append.mpr ⟨h1, List.pairwise_singleton _ _, fun x hx y hy => by rw [List.mem_singleton.mp hy]; exact hlt x hx⟩) fun x => by rw [List.mem_append, List.mem_singleton, h2]))
    rcases List.eq_nil_or_concat s with rfl | ⟨w, p, rfl⟩
    · refine Tr.eq (x := true) rfl ?_
      rw [if_pos rfl]
      exact app (by simp)
    · rw [List.concat_eq_append] at *
      refine Tr.eq (x := !decide (p = a)) ?_ ?_
      · unfold orS
        rw [if_neg (by simp), at_last]
        rfl
      · have hp : p ∈ pre := (h2 p).mp (by simp)
        have hle := le p hp
        by_cases c : p = a
        · rw [if_neg (by simp [c])]
          refine Tr.some (step _ (by omega) h1 fun x => ?_)
          rw [h2]
          constructor
          · exact .inl
          · rintro (q | q)
            · exact q
            · rw [q, ← c]; exact hp
        · rw [if_pos (by simp [c])]
          refine app fun x hx => ?_
          rcases List.mem_append.mp hx with hx | hx
          · have := (List.pairwise_append.mp h1).2.2 x hx p List.mem_cons_self
            omega
          · rw [List.mem_singleton.mp hx]; omega
  · rintro r ⟨pre, e, _, h1, h2⟩
    rw [List.append_nil] at e
    subst e
    exact lt_ext h1 (ssL_lt _) fun x => by rw [h2, ssL_mem]
theorem ssL_sort (ns : List Int) : ssL (sortL ns) = ssL ns := lt_ext (ssL_lt _) (ssL_lt _) fun x => by rw [ssL_mem, ssL_mem, (sortL_perm ns).mem_iff]
theorem lworths_eq (ns : List Int) (h : ns.length ≤ 1000) : s_law_worths ns = some (ssL ns) := by
  unfold s_law_worths
  rw [srt_ints (by omega), Option.bind_some]
  have hs : (sortL ns).Pairwise (· ≤ ·) := (sortL_sorted ns).imp fun {a b} h => by rw [leL_int] at h; exact of_decide_eq_true h
  obtain ⟨r, e, hr⟩ := once_for (sortL ns) (by rw [(sortL_perm ns).length_eq]; exact h) hs
  rw [e, hr, ssL_sort]
  rfl
/-! ### ranks -/
/-- how many are less -/
def rk (W : List Int) (x : Int) : Int := ((W.filter fun y => decide (y < x)).length : Int)
theorem rk_at : ∀ {W : List Int}, W.Pairwise (· < ·) → ∀ (i : Nat) (x : Int), W[i]? = some x → rk W x = (i : Int)
  | [], _, i, x, h => by simp at h
  | y :: W, hp, 0, x, h => by
    obtain ⟨h1, h2⟩ := List.pairwise_cons.mp hp
    cases h
    unfold rk
    rw [List.filter_eq_nil_iff.mpr fun z hz => ?_]
    · rfl
    · rcases List.mem_cons.mp hz with rfl | hz
      · simp
      · have := h1 z hz
        simp
        omega
  | y :: W, hp, i + 1, x, h => by
    obtain ⟨h1, h2⟩ := List.pairwise_cons.mp hp
    have hx : W[i]? = some x := by simpa using h
    have ih := rk_at h2 i x hx
    have := h1 x (List.mem_of_getElem? hx)
    unfold rk at ih ⊢
    rw [List.filter_cons_of_pos (by simpa using this), List.length_cons]
    omega
theorem rk_le {W : List Int} {x y : Int} (h : x ≤ y) : rk W x ≤ rk W y := by
  have : ∀ W : List Int, (W.filter fun z => decide (z < x)).length ≤ (W.filter fun z => decide (z < y)).length := by
    intro W
    induction W with
    | nil => exact Nat.le_refl _
    | cons a W ih =>
      by_cases c : a < x
      · rw [List.filter_cons_of_pos (by simpa using c), List.filter_cons_of_pos (by simpa using (show a < y by omega)), List.length_cons, List.length_cons]
        omega
      · rw [List.filter_cons_of_neg (by simpa using c)]
        have := ((List.sublist_cons_self a W).filter fun z => decide (z < y)).length_le
        omega
  exact Int.ofNat_le.mpr (this W)
/-- the numbers at places go as the places -/
theorem rk_iff {W : List Int} (hp : W.Pairwise (· < ·)) {i : Nat} {w x : Int} (hi : W[i]? = some w) (hx : x ∈ W) : (w ≤ x ↔ (i : Int) ≤ rk W x) ∧ (x ≤ w ↔ rk W x ≤ (i : Int)) ∧ (w < x ↔ (i : Int) < rk W x) := by
  obtain ⟨j, hj⟩ := List.mem_iff_getElem?.mp hx
  have e1 := rk_at hp i w hi
  have e2 := rk_at hp j x hj
  have mono : ∀ {a b : Nat} {u v : Int}, W[a]? = some u → W[b]? = some v → a < b → u < v := fun {a b u v} ha hb hab => by
    obtain ⟨ha1, ha2⟩ := List.getElem?_eq_some_iff.mp ha
    obtain ⟨hb1, hb2⟩ := List.getElem?_eq_some_iff.mp hb
    rw [← ha2, ← hb2]
    exact List.pairwise_iff_getElem.mp hp a b ha1 hb1 hab
  rw [e2]
  rcases Nat.lt_trichotomy i j with c | c | c
  · have := mono hi hj c
    refine ⟨⟨fun _ => by omega, fun _ => by omega⟩, ⟨fun _ => by omega, fun _ => by omega⟩, ⟨fun _ => by omega, fun _ => by omega⟩⟩
  · subst c
    rw [hi] at hj
    cases hj
    exact ⟨⟨fun _ => by omega, fun _ => by omega⟩, ⟨fun _ => by omega, fun _ => by omega⟩, ⟨fun _ => by omega, fun _ => by omega⟩⟩
  · have := mono hj hi c
    refine ⟨⟨fun _ => by omega, fun _ => by omega⟩, ⟨fun _ => by omega, fun _ => by omega⟩, ⟨fun _ => by omega, fun _ => by omega⟩⟩
theorem enum_rk {W : List Int} (hp : W.Pairwise (· < ·)) : ∀ (suf pre : List Int), pre ++ suf = W → (enumS (pre.length : Int) suf).map (fun p => (p.2, p.1)) = suf.map fun w => (w, rk W w)
  | [], _, _ => rfl
  | x :: suf, pre, e => by
    have ih := enum_rk hp suf (pre ++ [x]) (by rw [← e]; simp)
    rw [List.length_append, List.length_singleton] at ih
    have hx : W[pre.length]? = some x := by rw [← e, List.getElem?_append_right (Nat.le_refl _), Nat.sub_self]; rfl
    show (x, (pre.length : Int)) :: (enumS ((pre.length : Int) + 1) suf).map (fun p => (p.2, p.1)) = (x, rk W x) :: _
    rw [rk_at hp _ _ hx, ← ih]
    rfl
theorem nodup_lt {W : List Int} (h : W.Pairwise (· < ·)) : W.Nodup := h.imp fun {a b} h => by omega
/-! ### partings -/
theorem filt_pos {α : Type} {P : α → Bool} {a : α} (h : P a = true) : [a].filter P = [a] := by rw [List.filter_cons_of_pos h]; rfl
theorem filt_neg {α : Type} {P : α → Bool} {a : α} (h : ¬ P a = true) : [a].filter P = [] := by rw [List.filter_cons_of_neg h]; rfl
def bit (b : Bool) : Int := if b = true then 1 else 0
/-- the flags of a stretch of the worths -/
def flag (W ns : List Int) (p : Int × Int) : List Int := (ns.filter fun x => decide (p.1 ≤ rk W x) && decide (rk W x ≤ p.2)).map fun x => bit (decide ((p.1 + p.2) / 2 < rk W x))
theorem flag_len (W ns : List Int) (p : Int × Int) : (flag W ns p).length ≤ ns.length := by
  unfold flag
  rw [List.length_map]
  exact List.length_filter_le _ _
theorem flags_eq (W ns : List Int) (p : Int × Int) (hz : ns.length ≤ 1000) (hn : ∀ x ∈ ns, x ∈ W) : s_flags_of ns (W.map fun w => (w, rk W w)) p = some (flag W ns p) := by
  unfold s_flags_of
  refine Tr.is ?_
  refine Tr.bind (Tr.for (fun (l : List Int) (s : List Int) => ∃ pre, pre ++ l = ns ∧ s = flag W pre p) ⟨[], rfl, rfl⟩ ?_) ?_
  · rintro a l s ⟨pre, e, rfl⟩
    have hlen := congrArg List.length e
    rw [List.length_append, List.length_cons] at hlen
    have fl := flag_len W pre p
    have ha : a ∈ W := hn a (by rw [← e]; simp)
    refine Tr.eq (by rw [dg_map, if_pos ha]) ?_
    have ex : ∀ b : List Int, flag W (pre ++ [a]) p = flag W pre p ++ flag W [a] p := fun _ => by unfold flag; rw [List.filter_append, List.map_append]
    by_cases c : (decide (p.1 ≤ rk W a) && decide (rk W a ≤ p.2)) = true
    · rw [if_pos c]
      refine Tr.eq (app_ok (by omega)) (Tr.some ⟨pre ++ [a], by rw [← e]; simp, ?_⟩)
      rw [ex []]
      congr 1
      unfold flag
      rw [filt_pos (P := fun x => decide (p.1 ≤ rk W x) && decide (rk W x ≤ p.2)) c]
      rfl
    · rw [if_neg c]
      refine Tr.some ⟨pre ++ [a], by rw [← e]; simp, ?_⟩
      rw [ex []]
      have : flag W [a] p = [] := by unfold flag; rw [filt_neg (P := fun x => decide (p.1 ≤ rk W x) && decide (rk W x ≤ p.2)) c]; rfl
      rw [this, List.append_nil]
  · rintro s ⟨pre, e, rfl⟩
    rw [List.append_nil] at e
    rw [e]
    exact Tr.some rfl
/-- the parting of a row -/
def PT (ns : List Int) : List ((Int × Int) × List Int) := ((ST ((ssL ns).length : Int)).filter fun p => decide (p.1 < p.2)).map fun p => (p, flag (ssL ns) ns p)
theorem spots_eq (ns : List Int) : dmS ((enumS 0 (ssL ns)).map fun p => (p.2, p.1)) = (ssL ns).map fun w => (w, rk (ssL ns) w) := by
  have := enum_rk (ssL_lt ns) (ssL ns) [] rfl
  rw [show ((([] : List Int).length : Nat) : Int) = 0 from rfl] at this
  rw [this]
  exact dm_map _ _ (nodup_lt (ssL_lt ns))
theorem enum_len {α : Type} : ∀ (l : List α) (k : Int), (enumS k l).length = l.length
  | [], _ => rfl
  | a :: l, k => by show (enumS (k + 1) l).length + 1 = l.length + 1; rw [enum_len l]
theorem parted_eq (ns : List Int) (h0 : 0 < ns.length) (h : ns.length ≤ 1000) : s_parted ns = some (PT ns) := by
  have wl := ssL_len ns
  have wp := ssL_pos h0
  unfold s_parted
  rw [worths_eq ns h, Option.bind_some]
  rw [map_eq (f := fun a : Int × Int => some (a.2, a.1)) (fun a => (a.2, a.1)) (by rw [enum_len]; omega) fun _ _ => rfl, Option.bind_some]
  rw [spots_eq ns, List.length_map, stretches_eq _ (by omega) (by omega), Option.bind_some]
  have sl := ST_len (s := ((ssL ns).length : Int)) (by omega)
  rw [fil_eq (fun p : Int × Int => decide (p.1 < p.2)) (fun p => (p, flag (ssL ns) ns p)) (by omega) (fun _ _ => rfl) fun p hp _ => by rw [flags_eq (ssL ns) ns p h fun x hx => (ssL_mem ns x).mpr hx]; rfl]
  rfl
theorem lhalves_eq (side : Int) (h1 : 1 ≤ side) (h2 : side ≤ 1000) : s_law_halves side = some (ST side) := by
  have hN := tr_len 0 (side - 1) (by omega)
  unfold s_law_halves
  rw [Option.bind_some]
  refine Tr.is ?_
  refine Tr.bind (P := fun t : List (Int × Int) × List (Int × Int) => t.2.Perm (tr 0 (side - 1))) ?_ fun t ht => ?_
  · refine Tr.wh (fun s => (s.2 ++ trs s.1).Perm (tr 0 (side - 1))) (fun s => (trs s.1).length) ?_ TURNS (by simp [trs]) ?_
    · rintro ⟨wait, done⟩ hp
      have hp : (done ++ trs wait).Perm (tr 0 (side - 1)) := hp
      have hlen := hp.length_eq
      rw [List.length_append] at hlen
      refine Tr.some ⟨fun hb => ?_, fun hb => ?_⟩
      · have hb : (!decide (wait = [])) = true := hb
        rcases List.eq_nil_or_concat wait with rfl | ⟨w, p, rfl⟩
        · simp at hb
        · obtain ⟨lo, hi⟩ := p
          rw [List.concat_eq_append] at *
          have hw := trs_ge w
          rw [trs_app, trs_cons, trs_nil, List.append_nil] at hp
          rw [trs_app, trs_cons, trs_nil, List.append_nil, List.length_append] at hlen
          have hp1 := tr_pos lo hi
          refine Tr.eq (pop_last w (lo, hi)) (Tr.eq (app_ok (by show done.length < _; omega)) ?_)
          by_cases hlt : lo < hi
          · have tl := tr_lt hlt
            have hc : (tr lo hi).length = (tr lo ((lo + hi) / 2)).length + (tr ((lo + hi) / 2 + 1) hi).length + 1 := by rw [tl]; simp
            rw [if_pos (decide_eq_true hlt), Option.bind_some]
            refine Tr.eq (cat_ok (by show w.length + 2 ≤ _; omega)) (Tr.some ⟨?_, ?_⟩)
            · refine List.Perm.trans ?_ hp
              simp only [trs_cons, trs_app, tl, trs_nil, List.append_nil, List.append_assoc, List.singleton_append, List.cons_append, List.nil_append]
              refine List.Perm.append_left _ ?_
              have e1 : ((lo, hi) :: (trs w ++ (tr lo ((lo + hi) / 2) ++ tr ((lo + hi) / 2 + 1) hi))).Perm (trs w ++ (lo, hi) :: (tr lo ((lo + hi) / 2) ++ tr ((lo + hi) / 2 + 1) hi)) := List.perm_middle.symm
              exact e1
            · simp only [trs_cons, trs_app, List.length_append, trs_nil, List.append_nil]
              omega
          · have tl := tr_ge hlt
            rw [if_neg (by simpa using hlt)]
            refine Tr.some ⟨?_, ?_⟩
            · refine List.Perm.trans ?_ hp
              simp only [tl, List.append_assoc, List.singleton_append]
              exact List.Perm.append_left _ (List.perm_append_singleton _ _).symm
            · simp only [trs_cons, trs_app, List.length_append, trs_nil, List.append_nil]
              omega
      · have hb : (!decide (wait = [])) = false := hb
        have : wait = [] := by simpa using hb
        subst this
        simpa [trs] using hp
    · show (trs [(0, side - 1)]).length < TURNS
      have : TURNS = 100000 := rfl
      rw [trs_cons, trs_nil, List.append_nil]
      show (tr 0 (side - 1)).length < _
      omega
  · have hz := ht.length_eq
    refine Tr.eq (srt_ii (by omega)) (Tr.some ?_)
    exact sortL_congr ht
/-! ### the law's own parting -/
theorem bool_ite {α : Type} (c : Prop) [Decidable c] (x y : α) : (if decide c = true then x else y) = if c then x else y := by by_cases h : c <;> simp [h]
theorem lparting_eq (ns : List Int) (h0 : 0 < ns.length) (h : ns.length ≤ 1000) : s_law_parting ns = some (PT ns) := by
  have wl := ssL_len ns
  have wp := ssL_pos h0
  unfold s_law_parting
  rw [lworths_eq ns h, Option.bind_some, lhalves_eq _ (by omega) (by omega), Option.bind_some]
  refine Tr.is ?_
  have sl := ST_len (s := ((ssL ns).length : Int)) (by omega)
  generalize hS : ST ((ssL ns).length : Int) = S at sl
  have hin : ∀ p ∈ S, 0 ≤ p.1 ∧ p.1 ≤ p.2 ∧ p.2 ≤ ((ssL ns).length : Int) - 1 := fun p hp => by rw [← hS] at hp; exact ST_in (by omega) hp
  refine Tr.bind (Tr.for (fun (l : List (Int × Int)) (s : List ((Int × Int) × List Int)) => ∃ pre, pre ++ l = S ∧ s = (pre.filter fun p => decide (p.1 < p.2)).map fun p => (p, flag (ssL ns) ns p)) ⟨[], rfl, rfl⟩ ?_) ?_
  · rintro p l s ⟨pre, e, rfl⟩
    have hlen := congrArg List.length e
    rw [List.length_append, List.length_cons] at hlen
    have fl : ((pre.filter fun p => decide (p.1 < p.2)).map fun p => (p, flag (ssL ns) ns p)).length ≤ pre.length := by rw [List.length_map]; exact List.length_filter_le _ _
    by_cases c : p.1 < p.2
    · rw [if_pos (decide_eq_true c)]
      obtain ⟨g1, g2, g3⟩ := hin p (by rw [← e]; simp)
      obtain ⟨i, hi⟩ : ∃ i : Nat, p.1 = (i : Int) := ⟨p.1.toNat, by omega⟩
      obtain ⟨j, hj⟩ : ∃ j : Nat, p.2 = (j : Int) := ⟨p.2.toNat, by omega⟩
      obtain ⟨m, hm⟩ : ∃ m : Nat, (p.1 + p.2) / 2 = (m : Int) := ⟨((p.1 + p.2) / 2).toNat, by omega⟩
      obtain ⟨wi, ei⟩ : ∃ w, (ssL ns)[i]? = some w := ⟨_, List.getElem?_eq_getElem (by omega)⟩
      obtain ⟨wj, ej⟩ : ∃ w, (ssL ns)[j]? = some w := ⟨_, List.getElem?_eq_getElem (by omega)⟩
      obtain ⟨wm, em⟩ : ∃ w, (ssL ns)[m]? = some w := ⟨_, List.getElem?_eq_getElem (by omega)⟩
      have ai : atS (ssL ns) p.1 = some wi := by rw [hi, at_nat]; exact ei
      have aj : atS (ssL ns) p.2 = some wj := by rw [hj, at_nat]; exact ej
      have am : atS (ssL ns) ((p.1 + p.2) / 2) = some wm := by rw [hm, at_nat]; exact em
      have mem : ∀ x ∈ ns, x ∈ ssL ns := fun x hx => (ssL_mem ns x).mpr hx
      refine Tr.eq (fil_eq (fun x => decide (p.1 ≤ rk (ssL ns) x) && decide (rk (ssL ns) x ≤ p.2)) (fun x => x) (by omega) (fun x hx => ?_) fun _ _ _ => rfl) ?_
      · rw [ai, aj, Option.bind_some, Option.bind_some]
        have q1 := (rk_iff (ssL_lt ns) ei (mem x hx)).1
        have q2 := (rk_iff (ssL_lt ns) ej (mem x hx)).2.1
        rw [← hi] at q1
        rw [← hj] at q2
        show (anS (decide (wi ≤ x)) (some (decide (x ≤ wj)))).bind _ = _
        rw [decide_eq_decide.mpr q1, decide_eq_decide.mpr q2]
        unfold anS
        cases decide (p.1 ≤ rk (ssL ns) x) <;> rfl
      · rw [List.map_id']
        have ll : (ns.filter fun x => decide (p.1 ≤ rk (ssL ns) x) && decide (rk (ssL ns) x ≤ p.2)).length ≤ ns.length := List.length_filter_le _ _
        refine Tr.eq (map_eq (fun x => bit (decide ((p.1 + p.2) / 2 < rk (ssL ns) x))) (by omega) fun x hx => ?_) ?_
        · rw [am, Option.bind_some]
          have q3 := (rk_iff (ssL_lt ns) em (mem x (List.mem_filter.mp hx).1)).2.2
          rw [← hm] at q3
          show some (bit (decide (wm < x))) = _
          rw [decide_eq_decide.mpr q3]
        · refine Tr.eq (app_ok (by omega)) (Tr.some ⟨pre ++ [p], by rw [← e]; simp, ?_⟩)
          rw [List.filter_append, List.map_append, filt_pos (P := fun p : Int × Int => decide (p.1 < p.2)) (decide_eq_true c)]
          rfl
    · rw [if_neg (by simpa using c)]
      refine Tr.some ⟨pre ++ [p], by rw [← e]; simp, ?_⟩
      rw [List.filter_append, List.map_append, filt_neg (P := fun p : Int × Int => decide (p.1 < p.2)) (by simpa using c)]
      simp
  · rintro s ⟨pre, e, rfl⟩
    rw [List.append_nil] at e
    rw [e]
    refine Tr.some ?_
    show _ = PT ns
    unfold PT
    rw [hS]
/-! ### what holds -/
theorem PT_flag (ns : List Int) (h0 : 0 < ns.length) : ∀ k ∈ PT ns, k.2.length ≤ ns.length ∧ (∀ x ∈ k.2, x = 0 ∨ x = 1) ∧ 0 ≤ k.1.1 ∧ k.1.1 ≤ k.1.2 ∧ k.1.2 ≤ (ns.length : Int) := fun k hk => by
  unfold PT at hk
  obtain ⟨p, hp, rfl⟩ := List.mem_map.mp hk
  have hp := (List.mem_filter.mp hp).1
  have wl := ssL_len ns
  have wp := ssL_pos h0
  refine ⟨flag_len _ _ _, fun x hx => ?_, ?_⟩
  · unfold flag at hx
    obtain ⟨y, _, rfl⟩ := List.mem_map.mp hx
    unfold bit
    split
    · exact .inr rfl
    · exact .inl rfl
  · have := ST_in (by omega) hp
    simp only
    omega
theorem PT_len (ns : List Int) (h0 : 0 < ns.length) (h : ns.length ≤ 1000) : (PT ns).length ≤ 2 * ns.length := by
  have wl := ssL_len ns
  have wp := ssL_pos h0
  have sl := ST_len (s := ((ssL ns).length : Int)) (by omega)
  unfold PT
  rw [List.length_map]
  have := List.length_filter_le (fun p : Int × Int => decide (p.1 < p.2)) (ST ((ssL ns).length : Int))
  omega
theorem knot_eq (k : (Int × Int) × List Int) (h : k.2.length ≤ 1000) : s_is_knot k = some true := by
  unfold s_is_knot
  rw [cat_ok (by show 2 + _ ≤ _; omega), Option.bind_some, map_eq (f := fun a_1 : Int => (s_is_whole a_1).bind fun is_whole_1 => some is_whole_1) (fun _ => true) (by rw [List.length_append]; show 2 + _ ≤ _; omega) fun _ _ => rfl, Option.bind_some]
  congr 1
  rw [List.all_map]
  exact List.all_eq_true.mpr fun _ _ => rfl
theorem holds_eq (ns : List Int) (h0 : 0 < ns.length) (h : ns.length ≤ 1000) : s_holds_parted ns (PT ns) = some true := by
  have pl := PT_len ns h0 h
  unfold s_holds_parted
  refine Tr.is (Tr.eq (x := false) ?_ ?_)
  · unfold orS
    rw [if_neg (by decide), map_eq (fun _ => true) (by omega) fun k hk => by rw [knot_eq k (by have := (PT_flag ns h0 k hk).1; omega)]; rfl, Option.bind_some]
    have : ((PT ns).map fun _ => true).all id = true := by rw [List.all_map]; exact List.all_eq_true.mpr fun _ _ => rfl
    rw [this]
    rfl
  · rw [if_neg (by decide), parted_eq ns h0 h, Option.bind_some]
    exact Tr.some (by simp)
/-! ### what is shown -/
theorem fig_pow {x : Int} (h : -3000000000000000000000000000000 ≤ x ∧ x ≤ 3000000000000000000000000000000) : x.natAbs < 2 ^ 110 := by
  have e : (3000000000000000000000000000000 : Nat) < 2 ^ 110 := by decide
  have : x.natAbs ≤ 3000000000000000000000000000000 := by omega
  exact Nat.lt_of_le_of_lt this e
theorem repr_ints (l : List Int) (hl : l.length ≤ 1000) (h : ∀ x ∈ l, -3000000000000000000000000000000 ≤ x ∧ x ≤ 3000000000000000000000000000000) : reprS (eL PyData.int l) = some (eL PyData.int l).shown :=
  (shn_L (m := 1000) (fun x hx => shn_int (fig_pow (h x hx)) (by decide)) hl).repr (by decide) (by decide)
theorem repr_PT (ns : List Int) (h0 : 0 < ns.length) (h : ns.length ≤ 200) : reprS (eL (eP2 (eP2 PyData.int PyData.int) (eT PyData.int)) (PT ns)) = some (eL (eP2 (eP2 PyData.int PyData.int) (eT PyData.int)) (PT ns)).shown := by
  have pl := PT_len ns h0 (by omega)
  refine (shn_L (n := 2000) (k := 3) (m := 400) (fun k hk => ?_) (by omega)).repr (by decide) (by decide)
  obtain ⟨g1, g2, g3, g4, g5⟩ := PT_flag ns h0 k hk
  have sm : ∀ x : Int, 0 ≤ x → x ≤ 200 → x.natAbs < 2 ^ 10 := fun x a b => by omega
  have a1 : Shn (eP2 PyData.int PyData.int k.1) 31 2 := shn_P2 (shn_int (k := 10) (sm _ g3 (by omega)) (by decide)) (shn_int (k := 10) (sm _ (by omega) (by omega)) (by decide))
  have a2 : Shn (eT PyData.int k.2) 1003 2 := shn_T (n := 3) (k := 1) (m := 200) (fun x hx => shn_int (k := 1) (by rcases g2 x hx with rfl | rfl <;> decide) (by decide)) (by omega)
  exact (shn_P2 (e1 := eP2 PyData.int PyData.int) (e2 := eT PyData.int) a1 a2).mono (by decide) (by decide)
theorem ssL_fig {ns : List Int} {a b : Int} (h : ∀ x ∈ ns, a ≤ x ∧ x ≤ b) : ∀ x ∈ ssL ns, a ≤ x ∧ x ≤ b := fun x hx => h x ((ssL_mem ns x).mp hx)
/-! ### the law -/
theorem right_ok (ns : List Int) (h0 : 0 < ns.length) (h : ns.length ≤ 120) (hf : ∀ x ∈ ns, -2000000000000000000000000000000 ≤ x ∧ x ≤ 2000000000000000000000000000000) : s_law_right ns = some true := by
  have wl := ssL_len ns
  have r1 := repr_ints (ssL ns) (by omega) (ssL_fig fun x hx => by have := hf x hx; omega)
  have r2 := repr_PT ns h0 (by omega)
  unfold s_law_right
  refine Tr.is ?_
  refine Tr.eq (rg_ok (by decide) (by decide)) ?_
  refine Tr.onR (Tr.forR (fun _ _ => True) trivial fun _ _ _ _ => ?_) fun _ _ => ?_
  · refine Tr.eq (worths_eq ns (by omega)) (Tr.eq (parted_eq ns h0 (by omega)) (Tr.eq r1 (Tr.eq (lworths_eq ns (by omega)) (Tr.eq r1 (Tr.eq (x := false) ?_ ?_)))))
    · unfold orS
      rw [if_neg (by simp), r2, Option.bind_some, lparting_eq ns h0 (by omega), Option.bind_some, r2, Option.bind_some]
      simp
    · rw [if_neg (by decide)]
      refine Tr.eq (holds_eq ns h0 (by omega)) ?_
      rw [if_neg (by decide)]
      exact Tr.eq (app_ok (by omega)) (Tr.some ⟨(), rfl, trivial⟩)
  · rw [if_neg (by simp)]
    refine Tr.bind (Tr.at (Q := fun x => x ∈ ns) (by decide) (by omega) fun x hx => hx) fun x hx => ?_
    obtain ⟨m, em, lm, fm⟩ : ∃ m : List Int, setS ns (-(1 : Int)) (x + 1) = some m ∧ m.length = ns.length ∧ ∀ y ∈ m, -3000000000000000000000000000000 ≤ y ∧ y ≤ 3000000000000000000000000000000 := by
      unfold setS
      have : L2.ixN ns.length (-(1 : Int)) = some ((-(1 : Int)) + (ns.length : Int)).toNat := by
        unfold L2.ixN
        rw [if_neg (by decide), if_pos (by omega)]
      rw [this]
      refine ⟨_, rfl, List.length_set, fun y hy => ?_⟩
      rcases List.mem_or_eq_of_mem_set hy with hy | rfl
      · have := hf y hy; omega
      · have := hf x hx; omega
    refine Tr.eq em ?_
    have lr : m.reverse.length = ns.length := by rw [List.length_reverse]; exact lm
    have wl2 := ssL_len m.reverse
    have r3 := repr_ints (ssL m.reverse) (by omega) (ssL_fig fun x hx => fm x (List.mem_reverse.mp hx))
    have r4 := repr_PT m.reverse (by omega) (by omega)
    refine Tr.eq (worths_eq m.reverse (by omega)) (Tr.eq r3 (Tr.eq (lworths_eq m.reverse (by omega)) (Tr.eq r3 (Tr.eq (x := true) ?_ (Tr.some rfl)))))
    unfold anS
    rw [if_pos (by simp), parted_eq m.reverse (by omega) (by omega), Option.bind_some, r4, Option.bind_some, lparting_eq m.reverse (by omega) (by omega), Option.bind_some, r4, Option.bind_some]
    simp
theorem enum_in {α : Type} {P : Int × α → Prop} : ∀ (l : List α) (k : Int), (∀ (i : Nat) (x : α), l[i]? = some x → P (k + (i : Int), x)) → ∀ p ∈ enumS k l, P p
  | [], _, _, p, hp => by cases hp
  | x :: l, k, h, p, hp => by
    have hp : p = (k, x) ∨ p ∈ enumS (k + 1) l := List.mem_cons.mp hp
    rcases hp with rfl | hp
    · have := h 0 x rfl
      simpa using this
    · exact enum_in l (k + 1) (fun i y hy => by have := h (i + 1) y (by simpa using hy); rw [show k + 1 + (i : Int) = k + ((i + 1 : Nat) : Int) by omega]; exact this) p hp
theorem law_ok (script : List Int) (hl : script.length ≤ 1000) : Tr (s_law script) fun b => b = true := by
  unfold s_law
  refine Tr.eq (rg_ok (by omega) (by omega)) ?_
  refine Tr.onR (Tr.forR (fun _ _ => True) trivial ?_) fun _ _ => Tr.some rfl
  intro i l st _
  refine Tr.bind (pen_ok script i) fun pen _ => ?_
  refine Tr.bind (draw_ok _ _ (by decide) (by decide)) fun a ha => ?_
  refine Tr.bind (Tr.at (Q := fun x => 1 ≤ x ∧ x ≤ 120) (by split <;> omega) (by show (if _ then (1 : Int) else 0) < 2; split <;> omega) ?_) fun most hmost => ?_
  · intro x hx
    simp only [List.mem_cons, List.not_mem_nil, or_false] at hx
    omega
  refine Tr.bind (row_ok _ _ hmost.1 hmost.2) fun row hrow => ?_
  obtain ⟨⟨r1, r2⟩, rf⟩ := hrow
  refine Tr.bind (draw_ok _ _ (by decide) (by decide)) fun b hb => ?_
  refine Tr.bind (P := fun j : List Int => (0 < j.length ∧ j.length ≤ 120) ∧ ∀ x ∈ j, -2000000000000000000000000000000 ≤ x ∧ x ≤ 2000000000000000000000000000000) (Tr.ite (fun _ => ?_) fun _ => Tr.some ⟨⟨r1, r2⟩, fun x hx => by obtain ⟨g1, g2⟩ := rf x hx; omega⟩) fun j hj => ?_
  · refine Tr.eq (map_eq (fun a : Int × Int => a.2 * 7 + a.1) (by rw [enum_len]; omega) fun _ _ => rfl) (Tr.some ⟨by rw [List.length_map, enum_len]; exact ⟨r1, r2⟩, fun x hx => ?_⟩)
    obtain ⟨p, hp, rfl⟩ := List.mem_map.mp hx
    refine enum_in (P := fun p => -2000000000000000000000000000000 ≤ p.2 * 7 + p.1 ∧ p.2 * 7 + p.1 ≤ 2000000000000000000000000000000) row.1 0 (fun i x hi => ?_) p hp
    obtain ⟨g1, g2⟩ := rf x (List.mem_of_getElem? hi)
    have := (List.getElem?_eq_some_iff.mp hi).1
    simp only
    omega
  refine Tr.eq (right_ok j hj.1.1 hj.1.2 hj.2) ?_
  rw [if_neg (by decide)]
  exact Tr.some ⟨(), rfl, trivial⟩
theorem main_ok (ns : List Int) (hn : ns.length ≤ 63) (_ : ∀ z ∈ ns, Builtin.Int.intBits z ≤ 1048576) : ∃ fs, callN prog.P 20 nf_law [.fr (.list (ns.map .int))] = some (.fr (.bool true), fs) := by
  obtain ⟨b, e, rfl⟩ := law_ok ns (by omega)
  exact ⟨_, R_law 20 (by decide) ns true e⟩
end Lw

set_option Elab.async false
set_option linter.all false
set_option maxRecDepth 100000
set_option maxHeartbeats 0
namespace Lw
open PySem PySem.Spec PyProof.Rows L2 Bx
abbrev Rw : PySem.W.OpenRow := PySem.W.OpenLaw.row row
abbrev hk : PySem.W.Hook := hookB 4 prog
def ob (s : PySem.W.SharedT) : He.AlD × Bool := obsBG 4 prog (HandSHeadRun.getT s)
theorem ob_eq (s : PySem.W.SharedT) : ob s = hk.obs s.abs := obsBG_eq (HandSHeadRun.getT_eq s)
def loose : List Str := ["is_whole", "halved", "stretches", "worths", "flags_of", "parted", "is_knot", "holds_parted", "_law_pen", "_law_draw", "_law_number", "_law_row", "_law_pair", "_law_halves", "_law_worths", "_law_parting", "_law_right"]
theorem run (w : World) : HandSHeadRun.RunEq Rw (PySem.W.view Rw.prog [21]) hk ob 6000 loose w := by
  intro os
  kernel_rfl
end Lw
open PySem PySem.W PySem.Calls PyProof.Rows
theorem PySem.Challenge.cw_boxsums_k38_worths_parted_holds : PySem.Challenge.rw_boxsums_k38_worths_parted.Holds := by
  w_on; o_law
  refine HandSHeadRun.head_any (r := OpenLaw.row Lw.row) (q := view (OpenLaw.row Lw.row).prog [21]) (H := Lw.hk) (ob := Lw.ob) (M := 6000) (loose := Lw.loose) (d := HandSHeadRun.topDef (OpenLaw.row Lw.row).prog 21) (kwd := []) Lw.ob_eq
    (by kernel_rfl) (fun s => by kernel_rfl) Lw.run (by kernel_rfl) (by kernel_rfl) (by kernel_rfl) (by rfl) (by first | assumption | decide +kernel) (by decide +kernel) ⟨rfl, rfl, rfl, rfl, rfl, by decide +kernel⟩ ?hw ?hc
  case hw => w_witness2
  case hc => exact Bx.law_walk (l := Lw.row) (x := "_law_script") (i := 16) (k := 20) (n := 63) Lw.prog_ok rfl (by kernel_rfl) rfl rfl (by decide) (by kernel_rfl) ⟨rfl, by decide, by decide⟩ Lw.main_ok

import PyProof.Rows.All
import Wide.All
import OpenK.AllK
import Wide.FinOn
import HandS.ForMost
import HandS.Zip
import HandS.Style
import HandS.TupAny
import HandS.TupMul
import HandS.Wide
import HandS.IsInst
import HandS.RaiseMore
import HandS.Head0
import HandS.Head1
import HandS.Head2
import HandS.HeadEnd
import HandS.EndBits
import HandS.HeadHook1
import HandS.HeadHook2
import KE.SortData
import KE.DataEq
import KE.DataCmp
import KE.DataMinMax
import KE.DataIsa
import KE.DataAny
import KE.Datum
import KE.DatumOrd
import KE.GoesNew
import PyProof.ReprReads
import PyProof.ReprLen
import PyProof.FitsInt
import PySem.Challenge.RW_boxsums_k13_stretches_and_heights

set_option Elab.async false
set_option linter.all false
set_option maxRecDepth 100000
set_option autoImplicit false
/-! The evaluator: a small language of slots, its values are data (lists too), a slot is frozen or one's own. -/
namespace Bx
open PySem

/-- what a slot holds, what an expression gives: nothing known; frozen data; a list or dict of one's own; a look at a slot; a slot lent -/
inductive Sl where
  | no
  | fr (d : PyData)
  | ow (d : PyData)
  | lk (i : Nat)
  | ln (i : Nat)
abbrev Env := List Sl

inductive BOp where | add | sub | mul | fdiv | mod | pow | shl
  deriving DecidableEq
inductive COp where | eq | ne | lt | le | gt | ge | isin | notin | is | isnot
  deriving DecidableEq
/-- built-in functions of values -/
inductive Bt where | len | sum1 | min1 | max1 | min2 | max2 | abs | int1 | str1 | sorted | repr | list1 | tuple1 | all | any
  deriving DecidableEq
/-- methods that change their list -/
inductive Mu where | append | extend | pop | insert | reverse | clear
  deriving DecidableEq
inductive Ty where | int | bool | str | list | tuple | dict
  deriving DecidableEq
inductive Cn where | none | bool (b : Bool) | int (i : Int) | str (s : Str)
  deriving DecidableEq
def Cn.d : Cn → PyData
  | .none => .none
  | .bool b => .bool b
  | .int i => .int i
  | .str s => .str s

/-- targets -/
inductive Tg where
  | nm (i : Nat)
  | tup (a : Tg) (b : Tg)
  | tupn

mutual
inductive Ex where
  | k (c : Cn)
  | v (i : Nat)
  | mv (i : Nat)
  | bw (i : Nat)
  | ln (i : Nat)
  | tup (es : Exs)
  | lst (es : Exs)
  | dct (ks : Exs) (es : Exs)
  | bin (o : BOp) (a b : Ex)
  | neg (a : Ex)
  | nt (a : Ex)
  | cmp (o : COp) (a b : Ex)
  | ch (o p : COp) (a b c : Ex)
  | an (a b : Ex)
  | orr (a b : Ex)
  | ix (a b : Ex)
  | sl (a lo hi : Ex)
  | call (f : Nat) (es : Exs)
  | bt (b : Bt) (es : Exs)
  | isi (a : Ex) (ts : List Ty)
  | mu (m : Mu) (i : Nat) (es : Exs)
  | lc (t : Tg) (it : Itr) (c : Ex) (e : Ex) (own : List Nat)
inductive Exs where
  | nil
  | cons (e : Ex) (es : Exs)
inductive Itr where
  | ov (e : Ex)
  | rg (es : Exs)
  | zp (es : Exs)
  | en (e : Ex)
end

mutual
inductive S where
  | as (t : Tg) (e : Ex)
  | par (i j : Nat) (a b : Ex)
  | sx (i : Nat) (x e : Ex)
  | ex (e : Ex)
  | rt (e : Ex)
  | iff (c : Ex) (a b : Ss)
  | fo (t : Tg) (it : Itr) (b : Ss) (kill : List Nat)
  | wh (c : Ex) (b : Ss) (kill : List Nat)
  | nv
inductive Ss where
  | nil
  | cons (s : S) (r : Ss)
end

/-- a def: parameters, slots, body, the slots that are stored to -/
structure Fn where
  np : Nat
  ns : Nat
  body : Ss
  asg : List Nat

abbrev Call := Nat → List Sl → Option (Sl × List Sl)

/-! ### values -/
def SZ : Nat := 16777216
/-- looked at where it stands -/
def see (r : Env) : Sl → Option PyData
  | .fr d => some d
  | .ow d => some d
  | .lk i => match r[i]? with
    | some (.fr d) => some d
    | some (.ow d) => some d
    | _ => none
  | _ => none
def seeL (r : Env) : List Sl → Option (List PyData)
  | [] => some []
  | w :: ws => match see r w, seeL r ws with
    | some d, some ds => some (d :: ds)
    | _, _ => none
/-- frozen, to be stored or handed on -/
def fz : Sl → Option PyData
  | .fr d => some d
  | .ow d => some d
  | _ => none
def fzL : List Sl → Option (List PyData)
  | [] => some []
  | w :: ws => match fz w, fzL ws with
    | some d, some ds => some (d :: ds)
    | _, _ => none
def putS (r : Env) (i : Nat) (w : Sl) : Env := r.set i w
mutual
/-- no list or dict within -/
def flat : PyData → Bool
  | .none => true
  | .bool _ => true
  | .int _ => true
  | .str _ => true
  | .list _ => false
  | .tuple xs => flatAll xs
  | .dict _ => false
def flatAll : List PyData → Bool
  | [] => true
  | x :: xs => flat x && flatAll xs
end
/-- a value that leans on no list but its own -/
def flatW : Sl → Bool
  | .fr d => flat d
  | .ow (.list xs) => flatAll xs
  | .no => true
  | _ => false

/-! ### operators on data -/
def okD (d : PyData) : Bool := d.plain && decide (d.depth ≤ 64)
def smallI (i : Int) : Bool := decide (i.natAbs < 18446744073709551616)
def binD : BOp → PyData → PyData → Option Sl
  | .add, .int i, .int j => some (.fr (.int (i + j)))
  | .add, .str x, .str y => if x.length + y.length ≤ SZ then some (.fr (.str (x ++ y))) else none
  | .add, .tuple xs, .tuple ys => if xs.length + ys.length ≤ SZ then some (.fr (.tuple (xs ++ ys))) else none
  | .add, .list xs, .list ys => if xs.length + ys.length ≤ SZ then some (.ow (.list (xs ++ ys))) else none
  | .sub, .int i, .int j => some (.fr (.int (i - j)))
  | .mul, .int i, .int j => if smallI i || smallI j then some (.fr (.int (i * j))) else none
  | .fdiv, .int i, .int j => if 0 < j ∧ j < 1073741824 then some (.fr (.int (i / j))) else none
  | .mod, .int i, .int j => if 0 < j then some (.fr (.int (i % j))) else none
  | .pow, .int i, .int j => if 0 ≤ j ∧ j ≤ 1000000 ∧ i.natAbs < 2 ^ 64 then some (.fr (.int (i ^ j.toNat))) else none
  | .shl, .int i, .int j => if 0 ≤ j ∧ j ≤ 1000000 ∧ i.natAbs < 2 ^ 64 then some (.fr (.int (i * 2 ^ j.toNat))) else none
  | _, _, _ => none
def cmpD : COp → PyData → PyData → Option Bool
  | .eq, x, y => if okD x && okD y then some (PyData.eqv x y) else none
  | .ne, x, y => if okD x && okD y then some (!PyData.eqv x y) else none
  | .lt, .int i, .int j => some (decide (i < j))
  | .le, .int i, .int j => some (decide (i ≤ j))
  | .gt, .int i, .int j => some (decide (j < i))
  | .ge, .int i, .int j => some (decide (j ≤ i))
  | .is, .bool a, .bool b => some (a == b)
  | .isnot, .bool a, .bool b => some (!(a == b))
  | .is, x, .none => some (match x with | .none => true | _ => false)
  | .isnot, x, .none => some (match x with | .none => false | _ => true)
  | .isin, x, .list ys => if okD x && okD (.list ys) then some (ys.any fun y => PyData.eqv y x) else none
  | .isin, x, .tuple ys => if okD x && okD (.tuple ys) then some (ys.any fun y => PyData.eqv y x) else none
  | .notin, x, .list ys => if okD x && okD (.list ys) then some (!ys.any fun y => PyData.eqv y x) else none
  | .notin, x, .tuple ys => if okD x && okD (.tuple ys) then some (!ys.any fun y => PyData.eqv y x) else none
  | _, _, _ => none
/-- x[i] -/
def idxD : PyData → PyData → Option PyData
  | .list xs, .int i => L2.atI xs i
  | .tuple xs, .int i => L2.atI xs i
  | _, _ => none
def isNoneE : Ex → Bool
  | .k .none => true
  | _ => false
/-- a slice's part: left out, or an int -/
def partD (e : Ex) (d : PyData) : Option (Option Int) := if isNoneE e then some none else match d with
  | .int i => some (some i)
  | _ => none
/-- xs[lo:hi] -/
def cutL {α : Type} (xs : List α) (lo hi : Option Int) : List α := (xs.drop (HT.sIx xs.length 0 lo)).take (HT.sIx xs.length xs.length hi - HT.sIx xs.length 0 lo)
def sliceD (x : PyData) (lo hi : Option Int) : Option Sl := match x with
  | .list xs => some (.ow (.list (cutL xs lo hi)))
  | .tuple xs => some (.fr (.tuple (cutL xs lo hi)))
  | _ => none
def intsOf : List PyData → Option (List Int)
  | [] => some []
  | .int i :: r => match intsOf r with
    | some l => some (i :: l)
    | none => none
  | _ :: _ => none
def boolsOf : List PyData → Option (List Bool)
  | [] => some []
  | .bool i :: r => match boolsOf r with
    | some l => some (i :: l)
    | none => none
  | _ :: _ => none
/-- the items of a list or a tuple -/
def itemsOf : PyData → Option (List PyData)
  | .list xs => some xs
  | .tuple xs => some xs
  | _ => none
/-- every two alike: no tuple empty -/
def sortOk (xs : List PyData) : Bool :=
  (xs.all fun x => xs.all fun y => PySem.W.alike x y) && (xs.all fun x => decide (x.depth ≤ 64) && x.plain) &&
    ((xs.all fun x => match x with | .tuple (_ :: _) => true | _ => false) || (xs.all fun x => match x with | .none => false | .tuple _ => false | _ => true)) && decide (xs.length ≤ SZ)
def reprOk (x : PyData) : Bool := x.plain && x.showable && decide (x.shown.length ≤ SZ) && decide (x.depth ≤ 64)
def btD : Bt → List PyData → Option Sl
  | .len, [.list xs] => some (.fr (.int xs.length))
  | .len, [.tuple xs] => some (.fr (.int xs.length))
  | .sum1, [.list xs] => match intsOf xs with
      | some ns => some (.fr (.int ns.sum))
      | none => none
  | .min1, [.list xs] => match intsOf xs with
      | some (n :: ns) => some (.fr (.int (ns.foldl min n)))
      | _ => none
  | .max1, [.list xs] => match intsOf xs with
      | some (n :: ns) => some (.fr (.int (ns.foldl max n)))
      | _ => none
  | .min2, [.int i, .int j] => some (.fr (.int (min i j)))
  | .max2, [.int i, .int j] => some (.fr (.int (max i j)))
  | .abs, [.int i] => some (.fr (.int (i.natAbs : Int)))
  | .int1, [.int i] => some (.fr (.int i))
  | .int1, [.bool b] => some (.fr (.int (if b then 1 else 0)))
  | .sorted, [.list xs] => if sortOk xs then some (.ow (.list (xs.mergeSort (PySem.W.dataLe false id)))) else none
  | .repr, [x] => if reprOk x then some (.fr (.str x.shown)) else none
  | .str1, [.int i] => if i.natAbs.log2 < 1920 then some (.fr (.str (toString i))) else none
  | .list1, [.list xs] => some (.ow (.list xs))
  | .list1, [.tuple xs] => some (.ow (.list xs))
  | .tuple1, [.list xs] => some (.fr (.tuple xs))
  | .tuple1, [.tuple xs] => some (.fr (.tuple xs))
  | .all, [.list xs] => match boolsOf xs with
    | some bs => some (.fr (.bool (bs.all id)))
    | none => none
  | .any, [.list xs] => match boolsOf xs with
    | some bs => some (.fr (.bool (bs.any id)))
    | none => none
  | _, _ => none
def isTy : PyData → Ty → Bool
  | .int _, .int => true
  | .bool _, .int => true
  | .bool _, .bool => true
  | .str _, .str => true
  | .list _, .list => true
  | .tuple _, .tuple => true
  | .dict _, .dict => true
  | _, _ => false
/-- what changes a list: the list behind it, what is told -/
def muD : Mu → List PyData → List PyData → Option (PyData × List PyData)
  | .append, xs, [y] => if xs.length < SZ then some (.none, xs ++ [y]) else none
  | .extend, xs, [.list ys] => if xs.length + ys.length ≤ SZ then some (.none, xs ++ ys) else none
  | .pop, xs, [] => match xs[xs.length - 1]? with
    | some y => some (y, xs.dropLast)
    | none => none
  | .reverse, xs, [] => some (.none, xs.reverse)
  | .clear, xs, [] => some (.none, [])
  | _, _, _ => none
/-- the arguments of such a method: extend looks at its list, the others keep what they are given -/
def muA (m : Mu) (r : Env) (ws : List Sl) : Option (List PyData) := match m with
  | .extend => seeL r ws
  | _ => fzL ws
/-! ### the evaluator -/
def asgT : Tg → PyData → Env → Option Env
  | .nm i, d, r => if i < r.length then some (r.set i (.fr d)) else none
  | .tup a b, .tuple (x :: xs), r => match asgT a x r with
    | some r1 => asgT b (.tuple xs) r1
    | none => none
  | .tupn, .tuple [], r => some r
  | _, _, _ => none
def asg : Tg → Sl → Env → Option Env
  | .nm i, .fr d, r => if i < r.length then some (r.set i (.fr d)) else none
  | .nm i, .ow d, r => if i < r.length then some (r.set i (.ow d)) else none
  | .nm _, _, _ => none
  | t, w, r => match see r w with
    | some d => asgT t d r
    | none => none
def killS : Env → List Nat → Env
  | r, [] => r
  | r, i :: l => killS (r.set i .no) l
def hide : Env → List Nat → Env
  | r, [] => r
  | r, i :: l => hide (r.set i .no) l
/-- slots as they were put back -/
def back (o : Env) : Env → List Nat → Env
  | r, [] => r
  | r, i :: l => back o (r.set i (o.getD i .no)) l
/-- the slots of looks that are one's own -/
def ownLk (r : Env) : List Sl → List Nat
  | [] => []
  | .lk i :: ws => match r[i]? with
    | some (.ow _) => i :: ownLk r ws
    | _ => ownLk r ws
  | _ :: ws => ownLk r ws
def rangeD : List PyData → Option (List PyData)
  | [.int j] => if -(2 ^ 62) ≤ j ∧ j < 2 ^ 62 then some ((List.range j.toNat).map fun (i : Nat) => .int (i : Int)) else none
  | [.int a, .int b] => if -(2 ^ 62) ≤ a ∧ a < 2 ^ 62 ∧ -(2 ^ 62) ≤ b ∧ b < 2 ^ 62 then some ((List.range (b - a).toNat).map fun (i : Nat) => .int (a + (i : Int))) else none
  | _ => none
def zipD : List PyData → Option (List PyData)
  | [.list xs, .list ys] => some ((xs.zip ys).map fun p => .tuple [p.1, p.2])
  | [.tuple xs, .tuple ys] => some ((xs.zip ys).map fun p => .tuple [p.1, p.2])
  | _ => none
def enumFrom : Int → List PyData → List PyData
  | _, [] => []
  | k, x :: xs => .tuple [.int k, x] :: enumFrom (k + 1) xs
def enumD : PyData → Option (List PyData)
  | .list xs => some (enumFrom 0 xs)
  | _ => none

/-- a call's arguments: what the callee gets; the slots borrowed, lent -/
def argOf (r : Env) : Sl → Option Sl
  | .fr d => some (.fr d)
  | .ow d => some (.fr d)
  | .lk i => match r[i]? with
    | some (.fr d) => some (.fr d)
    | some (.ow d) => some (.fr d)
    | _ => none
  | .ln i => match r[i]? with
    | some (.ow d) => some (.ow d)
    | _ => none
  | .no => none
def argsOf (r : Env) : List Sl → Option (List Sl)
  | [] => some []
  | w :: ws => match argOf r w, argsOf r ws with
    | some a, some l => some (a :: l)
    | _, _ => none
def lents : List Sl → List Nat
  | [] => []
  | .ln i :: ws => i :: lents ws
  | _ :: ws => lents ws
def nodupB : List Nat → Bool
  | [] => true
  | i :: l => !l.contains i && nodupB l
/-- behind a call: lent slots as they are told -/
def giveBack : Env → List Sl → List Sl → Env
  | r, .ln i :: ws, f :: fs => giveBack (r.set i f) ws fs
  | r, _ :: ws, _ :: fs => giveBack r ws fs
  | r, _, _ => r
/-- slots that become frozen -/
def freezeAt (r : Env) : List Nat → Env
  | [] => r
  | i :: l => match r[i]? with
    | some (.ow d) => freezeAt (r.set i (.fr d)) l
    | _ => freezeAt r l
def isV : Sl → Bool
  | .fr _ => true
  | .ow _ => true
  | _ => false
def callE (C : Call) (f : Nat) (ws : List Sl) (r : Env) : Option (Sl × Env) :=
  match argsOf r ws with
  | none => none
  | some as =>
    if nodupB (lents ws) && (ownLk r ws).all fun i => !(lents ws).contains i then
      match C f as with
      | none => none
      | some (w, fs) =>
        if isV w && decide (fs.length = ws.length) then
          if flatW w && fs.all flatW then some (w, giveBack r ws fs)
          else some (w, giveBack (freezeAt r (ownLk r ws)) ws fs)
        else none
    else none

def compL (f : PyData → Env → Option (Option PyData × Env)) : List PyData → List PyData → Env → Option (List PyData × Env)
  | [], acc, r => some (acc, r)
  | x :: xs, acc, r => match f x r with
    | some (some y, r1) => if acc.length < SZ then compL f xs (acc ++ [y]) r1 else none
    | some (none, r1) => compL f xs acc r1
    | none => none

mutual
def evE (C : Call) : Ex → Env → Option (Sl × Env)
  | .k c, r => some (.fr c.d, r)
  | .v i, r => match r[i]? with
    | some (.fr d) => some (.fr d, r)
    | some (.ow d) => some (.fr d, r.set i (.fr d))
    | _ => none
  | .mv i, r => match r[i]? with
    | some (.fr d) => some (.fr d, r)
    | some (.ow d) => some (.ow d, r.set i .no)
    | _ => none
  | .bw i, r => match r[i]? with
    | some (.fr _) => some (.lk i, r)
    | some (.ow _) => some (.lk i, r)
    | _ => none
  | .ln i, r => match r[i]? with
    | some (.ow _) => some (.ln i, r)
    | _ => none
  | .tup es, r => match evEs C es r with
    | some (ws, r1) => match fzL ws with
      | some ds => if ds.length ≤ SZ then some (.fr (.tuple ds), r1) else none
      | none => none
    | none => none
  | .lst es, r => match evEs C es r with
    | some (ws, r1) => match fzL ws with
      | some ds => if ds.length ≤ SZ then some (.ow (.list ds), r1) else none
      | none => none
    | none => none
  | .dct _ _, _ => none
  | .bin o a b, r => match evE C a r with
    | some (x, r1) => match evE C b r1 with
      | some (y, r2) => match see r2 x, see r2 y with
        | some d, some e => match binD o d e with
          | some w => some (w, r2)
          | none => none
        | _, _ => none
      | none => none
    | none => none
  | .neg a, r => match evE C a r with
    | some (.fr (.int i), r1) => some (.fr (.int (-i)), r1)
    | _ => none
  | .nt a, r => match evE C a r with
    | some (.fr (.bool b), r1) => some (.fr (.bool (!b)), r1)
    | _ => none
  | .cmp o a b, r => match evE C a r with
    | some (x, r1) => match evE C b r1 with
      | some (y, r2) => match see r2 x, see r2 y with
        | some d, some e => match cmpD o d e with
          | some c => some (.fr (.bool c), r2)
          | none => none
        | _, _ => none
      | none => none
    | none => none
  | .ch o p a b c, r => match evE C a r with
    | some (x, r1) => match evE C b r1 with
      | some (y, r2) => match see r2 x, see r2 y with
        | some d, some e => match cmpD o d e with
          | some true => match evE C c r2 with
            | some (z, r3) => match see r3 y, see r3 z with
              | some e', some g => match cmpD p e' g with
                | some h => some (.fr (.bool h), r3)
                | none => none
              | _, _ => none
            | none => none
          | some false => some (.fr (.bool false), r2)
          | none => none
        | _, _ => none
      | none => none
    | none => none
  | .an a b, r => match evE C a r with
    | some (.fr (.bool true), r1) => match evE C b r1 with
      | some (.fr (.bool c), r2) => some (.fr (.bool c), r2)
      | _ => none
    | some (.fr (.bool false), r1) => some (.fr (.bool false), r1)
    | _ => none
  | .orr a b, r => match evE C a r with
    | some (.fr (.bool true), r1) => some (.fr (.bool true), r1)
    | some (.fr (.bool false), r1) => match evE C b r1 with
      | some (.fr (.bool c), r2) => some (.fr (.bool c), r2)
      | _ => none
    | _ => none
  | .ix a b, r => match evE C a r with
    | some (x, r1) => match evE C b r1 with
      | some (y, r2) => match see r2 x, see r2 y with
        | some d, some e => match idxD d e with
          | some g => some (.fr g, r2)
          | none => none
        | _, _ => none
      | none => none
    | none => none
  | .sl a lo hi, r => match evE C a r with
    | some (x, r1) => match evE C lo r1 with
      | some (.fr y, r2) => match evE C hi r2 with
        | some (.fr z, r3) => match see r3 x, partD lo y, partD hi z with
          | some d, some l, some h => match sliceD d l h with
            | some w => some (w, r3)
            | none => none
          | _, _, _ => none
        | _ => none
      | _ => none
    | none => none
  | .call f es, r => match evEs C es r with
    | some (ws, r1) => callE C f ws r1
    | none => none
  | .bt b es, r => match evEs C es r with
    | some (ws, r1) => match seeL r1 ws with
      | some ds => match btD b ds with
        | some w => some (w, r1)
        | none => none
      | none => none
    | none => none
  | .isi a ts, r => match evE C a r with
    | some (x, r1) => match see r1 x with
      | some d => some (.fr (.bool (ts.any (isTy d))), r1)
      | none => none
    | none => none
  | .mu m i es, r => match r[i]? with
    | some (.ow (.list _)) => match evEs C es r with
      | some (ws, r1) => match r1[i]? with
        | some (.ow (.list xs)) => match muA m r1 ws with
          | some ds => match muD m xs ds with
            | some (y, ys) => some (.fr y, r1.set i (.ow (.list ys)))
            | none => none
          | none => none
        | _ => none
      | none => none
    | _ => none
  | .lc t it c e own, r => match evI C it r with
    | some (xs, hs, r1) => match compL (fun x r => match asgT t x (killS r own) with
        | some r2 => match evE C c r2 with
          | some (.fr (.bool true), r3) => match evE C e r3 with
            | some (w, r4) => match fz w with
              | some y => some (some y, killS r4 own)
              | none => none
            | none => none
          | some (.fr (.bool false), r3) => some (none, killS r3 own)
          | _ => none
        | none => none) xs [] (killS (hide r1 hs) own) with
      | some (ys, r5) => some (.ow (.list ys), back r1 r5 hs)
      | none => none
    | none => none
def evEs (C : Call) : Exs → Env → Option (List Sl × Env)
  | .nil, r => some ([], r)
  | .cons e es, r => match evE C e r with
    | some (w, r1) => match evEs C es r1 with
      | some (ws, r2) => some (w :: ws, r2)
      | none => none
    | none => none
/-- what is walked: the items, the slots that stay out of reach meanwhile -/
def evI (C : Call) : Itr → Env → Option (List PyData × List Nat × Env)
  | .ov e, r => match evE C e r with
    | some (w, r1) => match see r1 w with
      | some d => match itemsOf d with
        | some xs => some (xs, ownLk r1 [w], r1)
        | none => none
      | none => none
    | none => none
  | .rg es, r => match evEs C es r with
    | some (ws, r1) => match seeL r1 ws with
      | some ds => match rangeD ds with
        | some xs => some (xs, [], r1)
        | none => none
      | none => none
    | none => none
  | .zp es, r => match evEs C es r with
    | some (ws, r1) => match seeL r1 ws with
      | some ds => match zipD ds with
        | some xs => some (xs, ownLk r1 ws, r1)
        | none => none
      | none => none
    | none => none
  | .en e, r => match evE C e r with
    | some (w, r1) => match see r1 w with
      | some d => match enumD d with
        | some xs => some (xs, ownLk r1 [w], r1)
        | none => none
      | none => none
    | none => none
end

/-- a statement's end -/
inductive Rs where
  | nx (r : Env)
  | rt (w : Sl) (r : Env)
/-- slots that a target, a statement stores to -/
def Tg.st : Tg → List Nat
  | .nm i => [i]
  | .tup a b => a.st ++ b.st
  | .tupn => []
mutual
def S.st : S → List Nat
  | .as t _ => t.st
  | .par i j _ _ => [i, j]
  | .iff _ a b => a.st ++ b.st
  | .fo t _ b _ => t.st ++ b.st
  | .wh _ b _ => b.st
  | _ => []
def Ss.st : Ss → List Nat
  | .nil => []
  | .cons s r => s.st ++ r.st
end
def forL (f : PyData → Env → Option Rs) (kill : List Nat) : List PyData → Env → Option Rs
  | [], r => some (.nx r)
  | x :: xs, r => match f x r with
    | some (.nx r1) => forL f kill xs (killS r1 kill)
    | some (.rt w r1) => some (.rt w r1)
    | none => none
def whileL (c : Env → Option (Sl × Env)) (b : Env → Option Rs) (kill : List Nat) : Nat → Env → Option Rs
  | 0, _ => none
  | n + 1, r => match c r with
    | some (.fr (.bool true), r1) => match b r1 with
      | some (.nx r2) => whileL c b kill n (killS r2 kill)
      | some (.rt w r2) => some (.rt w r2)
      | none => none
    | some (.fr (.bool false), r1) => some (.nx r1)
    | _ => none
def TURNS : Nat := 100000
def backR (o : Env) (hs : List Nat) : Rs → Rs
  | .nx r => .nx (back o r hs)
  | .rt w r => .rt w (back o r hs)
mutual
def evS (C : Call) : S → Env → Option Rs
  | .as t e, r => match evE C e r with
    | some (w, r1) => match asg t w r1 with
      | some r2 => some (.nx r2)
      | none => none
    | none => none
  | .par i j a b, r => match evEs C (.cons a (.cons b .nil)) r with
    | some (ws, r1) => match fzL ws with
      | some [d, e] => if i ≠ j ∧ i < r1.length ∧ j < r1.length then some (.nx ((r1.set i (.fr d)).set j (.fr e))) else none
      | _ => none
    | none => none
  | .sx i x e, r => match evE C e r with
    | some (w, r1) => match fz w, r1[i]? with
      | some d, some (.ow _) => match evE C x r1 with
        | some (.fr (.int k), r2) => match r2[i]? with
          | some (.ow (.list xs)) => match L2.ixN xs.length k with
            | some j => some (.nx (r2.set i (.ow (.list (xs.set j d)))))
            | none => none
          | _ => none
        | _ => none
      | _, _ => none
    | none => none
  | .ex e, r => match evE C e r with
    | some (_, r1) => some (.nx r1)
    | none => none
  | .rt e, r => match evE C e r with
    | some (.fr d, r1) => some (.rt (.fr d) r1)
    | some (.ow d, r1) => some (.rt (.ow d) r1)
    | _ => none
  | .iff c a b, r => match evE C c r with
    | some (.fr (.bool true), r1) => evB C a r1
    | some (.fr (.bool false), r1) => evB C b r1
    | _ => none
  | .fo t it b kill, r => match evI C it r with
    | some (xs, hs, r1) =>
      if hs.all (fun i => !(t.st ++ b.st).contains i) then
        match forL (fun x r => match asgT t x r with
          | some r2 => evB C b r2
          | none => none) kill xs (hide r1 hs) with
        | some q => some (backR r1 hs q)
        | none => none
      else none
    | none => none
  | .wh c b kill, r => whileL (evE C c) (evB C b) kill TURNS r
  | .nv, _ => none
def evB (C : Call) : Ss → Env → Option Rs
  | .nil, r => some (.nx r)
  | .cons s q, r => match evS C s r with
    | some (.nx r1) => evB C q r1
    | some (.rt w r1) => some (.rt w r1)
    | none => none
end
/-- lent parameters behind the call, nothing of the others -/
def finals : List Sl → List Sl → List Sl
  | .ow _ :: ws, f :: fs => f :: finals ws fs
  | _ :: ws, _ :: fs => .no :: finals ws fs
  | _, _ => []
def lentOk (asg : List Nat) : Nat → List Sl → Bool
  | _, [] => true
  | i, .ow _ :: ws => !asg.contains i && lentOk asg (i + 1) ws
  | i, _ :: ws => lentOk asg (i + 1) ws
def runFn (C : Call) (f : Fn) (ws : List Sl) : Option (Sl × List Sl) :=
  if ws.length = f.np then
    if lentOk f.asg 0 ws then
      match evB C f.body (ws ++ List.replicate (f.ns - f.np) .no) with
      | some (.rt w r) => if isV w && decide (f.np ≤ r.length) then some (w, finals ws r) else none
      | some (.nx r) => if f.np ≤ r.length then some (.fr .none, finals ws r) else none
      | none => none
    else none
  else none
def callN (P : List Fn) : Nat → Call
  | 0 => fun _ _ => none
  | n + 1 => fun f ws => match P[f]? with
    | some fn => runFn (callN P n) fn ws
    | none => none
end Bx

set_option Elab.async false
set_option linter.all false
set_option maxRecDepth 100000
set_option autoImplicit false
set_option maxHeartbeats 1000000
/-! The evaluator and the model: what a value stands for in the abstract heap; what may change. -/
namespace Bx
open PySem PySem.Spec PyProof.Rows L2

abbrev SG := L2.St
def keyD : PyData → Option L2.Key
  | .int i => some (.inl i)
  | .str s => some (.inr s)
  | _ => none
mutual
/-- v stands for the data d in the abstract heap H -/
def Rp (K : PySem.W.Frag) (H : Hp) : PyData → V → Prop
  | .none, v => v = .non
  | .bool b, v => v = .bl b
  | .int i, v => v = .int i
  | .str s, v => v = .str s
  | .list xs, v => ∃ a vs, v = .ref a ∧ SqL K H a vs ∧ RpA K H xs vs
  | .tuple xs, v => ∃ a vs, v = .ref a ∧ SqT K H a vs ∧ RpA K H xs vs
  | .dict kvs, v => ∃ a kv, v = .ref a ∧ Rd H a (.dK kv) ∧ RpK K H kvs kv
def RpA (K : PySem.W.Frag) (H : Hp) : List PyData → List V → Prop
  | [], vs => vs = []
  | x :: xs, vs => ∃ v r, vs = v :: r ∧ Rp K H x v ∧ RpA K H xs r
def RpK (K : PySem.W.Frag) (H : Hp) : List (PyData × PyData) → List (L2.Key × V) → Prop
  | [], vs => vs = []
  | (k, x) :: xs, vs => ∃ q v r, vs = (q, v) :: r ∧ keyD k = some q ∧ Rp K H x v ∧ RpK K H xs r
end
section
variable {K : PySem.W.Frag} {F F' H H' : Hp}
theorem SqL.mono (h : Same F F') {a : Addr} {xs : List V} (q : SqL K F a xs) : SqL K F' a xs := h.seq q
theorem SqT.mono (h : Same F F') {a : Addr} {xs : List V} (q : SqT K F a xs) : SqT K F' a xs := by
  rcases q with (q | ⟨o, q⟩) | q
  · exact .inl (.inl (h _ _ q))
  · exact .inl (.inr ⟨o, h _ _ q⟩)
  · exact .inr q
theorem Rd.mono (h : Same F F') {a : Addr} {u : HO} (q : Rd F a u) : Rd F' a u := by
  rcases q with q | ⟨o, q⟩
  · exact .inl (h _ _ q)
  · exact .inr ⟨o, h _ _ q⟩
mutual
theorem Rp.mono (h : Same F F') : ∀ (d : PyData) (v : V), Rp K F d v → Rp K F' d v
  | .none, _, q => by simpa [Rp] using q
  | .bool _, _, q => by simpa [Rp] using q
  | .int _, _, q => by simpa [Rp] using q
  | .str _, _, q => by simpa [Rp] using q
  | .list xs, v, q => by
    unfold Rp at q ⊢
    obtain ⟨a, vs, e, s, r⟩ := q
    exact ⟨a, vs, e, SqL.mono h s, RpA.mono h xs vs r⟩
  | .tuple xs, v, q => by
    unfold Rp at q ⊢
    obtain ⟨a, vs, e, s, r⟩ := q
    exact ⟨a, vs, e, SqT.mono h s, RpA.mono h xs vs r⟩
  | .dict kvs, v, q => by
    unfold Rp at q ⊢
    obtain ⟨a, vs, e, s, r⟩ := q
    exact ⟨a, vs, e, Rd.mono h s, RpK.mono h kvs vs r⟩
theorem RpA.mono (h : Same F F') : ∀ (ds : List PyData) (vs : List V), RpA K F ds vs → RpA K F' ds vs
  | [], _, q => by simpa [RpA] using q
  | x :: xs, vs, q => by
    unfold RpA at q ⊢
    obtain ⟨v, r, e, a, b⟩ := q
    exact ⟨v, r, e, Rp.mono h x v a, RpA.mono h xs r b⟩
theorem RpK.mono (h : Same F F') : ∀ (ds : List (PyData × PyData)) (vs : List (L2.Key × V)), RpK K F ds vs → RpK K F' ds vs
  | [], _, q => by simpa [RpK] using q
  | (k, x) :: xs, vs, q => by
    unfold RpK at q ⊢
    obtain ⟨p, v, r, e, z, a, b⟩ := q
    exact ⟨p, v, r, e, z, Rp.mono h x v a, RpK.mono h xs r b⟩
end
mutual
/-- flat data lean on tuples alone -/
theorem Rp.flatTo (h : ∀ a xs, SqT K F a xs → SqT K F' a xs) : ∀ (d : PyData) (v : V), flat d = true → Rp K F d v → Rp K F' d v
  | .none, _, _, q => by simpa [Rp] using q
  | .bool _, _, _, q => by simpa [Rp] using q
  | .int _, _, _, q => by simpa [Rp] using q
  | .str _, _, _, q => by simpa [Rp] using q
  | .list xs, v, f, q => by simp [flat] at f
  | .tuple xs, v, f, q => by
    unfold Rp at q ⊢
    obtain ⟨a, vs, e, s, r⟩ := q
    exact ⟨a, vs, e, h _ _ s, RpA.flatTo h xs vs (by simpa [flat] using f) r⟩
  | .dict kvs, v, f, q => by simp [flat] at f
theorem RpA.flatTo (h : ∀ a xs, SqT K F a xs → SqT K F' a xs) : ∀ (ds : List PyData) (vs : List V), flatAll ds = true → RpA K F ds vs → RpA K F' ds vs
  | [], _, _, q => by simpa [RpA] using q
  | x :: xs, vs, f, q => by
    unfold RpA at q ⊢
    obtain ⟨v, r, e, a, b⟩ := q
    have f' : flat x = true ∧ flatAll xs = true := by simpa [flatAll] using f
    exact ⟨v, r, e, Rp.flatTo h x v f'.1 a, RpA.flatTo h xs r f'.2 b⟩
end
theorem RpA.nil : RpA K H [] [] := by simp [RpA]
theorem RpA.cons {d : PyData} {ds : List PyData} {v : V} {vs : List V} (h : Rp K H d v) (t : RpA K H ds vs) : RpA K H (d :: ds) (v :: vs) := by
  unfold RpA
  exact ⟨v, vs, rfl, h, t⟩
theorem RpA.len : ∀ {ds : List PyData} {vs : List V}, RpA K H ds vs → ds.length = vs.length
  | [], vs, q => by
    unfold RpA at q
    subst q
    rfl
  | x :: xs, vs, q => by
    unfold RpA at q
    obtain ⟨v, r, rfl, a, b⟩ := q
    rw [List.length_cons, List.length_cons, RpA.len b]
theorem RpA.at : ∀ {ds : List PyData} {vs : List V} {i : Nat} {d : PyData}, RpA K H ds vs → ds[i]? = some d → ∃ v, vs[i]? = some v ∧ Rp K H d v
  | [], vs, i, d, q, e => by simp at e
  | x :: xs, vs, 0, d, q, e => by
    unfold RpA at q
    obtain ⟨v, r, rfl, a, b⟩ := q
    simp at e
    subst e
    exact ⟨v, rfl, a⟩
  | x :: xs, vs, i + 1, d, q, e => by
    unfold RpA at q
    obtain ⟨v, r, rfl, a, b⟩ := q
    obtain ⟨w, h1, h2⟩ := RpA.at (i := i) b (by simpa using e)
    exact ⟨w, by simpa using h1, h2⟩
theorem RpA.atV : ∀ {ds : List PyData} {vs : List V} {i : Nat} {v : V}, RpA K H ds vs → vs[i]? = some v → ∃ d, ds[i]? = some d ∧ Rp K H d v := fun {ds vs i v} q e => by
  have hl := q.len
  obtain ⟨h, he⟩ := List.getElem?_eq_some_iff.mp e
  have h' : i < ds.length := by omega
  obtain ⟨w, h1, h2⟩ := q.at (List.getElem?_eq_getElem h')
  rw [e] at h1
  cases h1
  exact ⟨_, List.getElem?_eq_getElem h', h2⟩
theorem RpA.app : ∀ {ds es : List PyData} {vs ws : List V}, RpA K H ds vs → RpA K H es ws → RpA K H (ds ++ es) (vs ++ ws)
  | [], es, vs, ws, q, p => by
    unfold RpA at q
    subst q
    exact p
  | x :: xs, es, vs, ws, q, p => by
    unfold RpA at q
    obtain ⟨v, r, rfl, a, b⟩ := q
    exact RpA.cons a (RpA.app b p)
theorem RpA.take : ∀ {ds : List PyData} {vs : List V} (n : Nat), RpA K H ds vs → RpA K H (ds.take n) (vs.take n)
  | ds, vs, 0, q => by simpa using RpA.nil
  | [], vs, n + 1, q => by
    unfold RpA at q
    subst q
    exact RpA.nil
  | x :: xs, vs, n + 1, q => by
    unfold RpA at q
    obtain ⟨v, r, rfl, a, b⟩ := q
    exact RpA.cons a (RpA.take n b)
theorem RpA.drop : ∀ {ds : List PyData} {vs : List V} (n : Nat), RpA K H ds vs → RpA K H (ds.drop n) (vs.drop n)
  | ds, vs, 0, q => q
  | [], vs, n + 1, q => by
    unfold RpA at q
    subst q
    exact RpA.nil
  | x :: xs, vs, n + 1, q => by
    unfold RpA at q
    obtain ⟨v, r, rfl, a, b⟩ := q
    exact RpA.drop n b
theorem RpA.set : ∀ {ds : List PyData} {vs : List V} (i : Nat) {d : PyData} {v : V}, RpA K H ds vs → Rp K H d v → RpA K H (ds.set i d) (vs.set i v)
  | [], vs, i, d, v, q, p => by
    unfold RpA at q
    subst q
    exact RpA.nil
  | x :: xs, vs, 0, d, v, q, p => by
    unfold RpA at q
    obtain ⟨w, r, rfl, a, b⟩ := q
    exact RpA.cons p b
  | x :: xs, vs, i + 1, d, v, q, p => by
    unfold RpA at q
    obtain ⟨w, r, rfl, a, b⟩ := q
    exact RpA.cons a (RpA.set i b p)
theorem RpA.rev {ds : List PyData} {vs : List V} (q : RpA K H ds vs) : RpA K H ds.reverse vs.reverse := by
  induction ds generalizing vs with
  | nil =>
    unfold RpA at q
    subst q
    exact RpA.nil
  | cons x xs ih =>
    unfold RpA at q
    obtain ⟨w, r, rfl, a, b⟩ := q
    rw [List.reverse_cons, List.reverse_cons]
    exact RpA.app (ih b) (RpA.cons a RpA.nil)
theorem RpA.dropLast {ds : List PyData} {vs : List V} (q : RpA K H ds vs) : RpA K H ds.dropLast vs.dropLast := by
  rw [List.dropLast_eq_take, List.dropLast_eq_take, q.len]
  exact q.take _
theorem RpA.ints : ∀ {ds : List PyData} {vs : List V} {ns : List Int}, RpA K H ds vs → intsOf ds = some ns → vs = ns.map V.int
  | [], vs, ns, q, e => by
    unfold RpA at q
    subst q
    simp [intsOf] at e
    subst e
    rfl
  | x :: xs, vs, ns, q, e => by
    unfold RpA at q
    obtain ⟨w, r, rfl, a, b⟩ := q
    cases x with
    | int i =>
      simp only [intsOf] at e
      cases h : intsOf xs with
      | none => rw [h] at e; cases e
      | some l =>
        rw [h] at e
        cases e
        unfold Rp at a
        subst a
        rw [RpA.ints b h]
        rfl
    | _ => simp [intsOf] at e
theorem RpA.bools : ∀ {ds : List PyData} {vs : List V} {ns : List Bool}, RpA K H ds vs → boolsOf ds = some ns → vs = ns.map V.bl
  | [], vs, ns, q, e => by
    unfold RpA at q
    subst q
    simp [boolsOf] at e
    subst e
    rfl
  | x :: xs, vs, ns, q, e => by
    unfold RpA at q
    obtain ⟨w, r, rfl, a, b⟩ := q
    cases x with
    | bool i =>
      simp only [boolsOf] at e
      cases h : boolsOf xs with
      | none => rw [h] at e; cases e
      | some l =>
        rw [h] at e
        cases e
        unfold Rp at a
        subst a
        rw [RpA.bools b h]
        rfl
    | _ => simp [boolsOf] at e
end

/-! ### owned things, worlds -/
def OwnAt (K : PySem.W.Frag) (F H : Hp) (d : PyData) (a : Addr) : Prop := F a = none ∧ match d with
  | .list xs => ∃ vs, H a = some (.lst vs) ∧ RpA K F xs vs
  | .dict kvs => ∃ kv, H a = some (.dK kv) ∧ RpK K F kvs kv
  | _ => False
theorem OwnAt.some {K : PySem.W.Frag} {F H : Hp} {d : PyData} {a : Addr} (h : OwnAt K F H d a) : ∃ o, H a = some o := by
  obtain ⟨_, h⟩ := h
  cases d with
  | list xs => obtain ⟨vs, e, _⟩ := h; exact ⟨_, e⟩
  | dict kvs => obtain ⟨vs, e, _⟩ := h; exact ⟨_, e⟩
  | _ => exact h.elim
def SlOk (K : PySem.W.Frag) (F H : Hp) (σ : SG) (i : Nat) : Sl → Prop
  | .no => True
  | .fr d => ∃ v, σ[i]? = some (some v) ∧ Rp K F d v
  | .ow d => ∃ a, σ[i]? = some (some (V.ref a)) ∧ OwnAt K F H d a
  | _ => False
/-- a slot's own object -/
def Own (r : Env) (σ : SG) (a : Addr) : Prop := ∃ (i : Nat) (d : PyData), r[i]? = some (Sl.ow d) ∧ σ[i]? = some (some (V.ref a))
structure Wd (K : PySem.W.Frag) (F H : Hp) (r : Env) (σ : SG) : Prop where
  le : Same F H
  len : r.length = σ.length
  sl : ∀ (i : Nat) (w : Sl), r[i]? = some w → SlOk K F H σ i w
  inj : ∀ (i j : Nat) (d d' : PyData) (a : Addr), r[i]? = some (Sl.ow d) → r[j]? = some (Sl.ow d') → σ[i]? = some (some (V.ref a)) → σ[j]? = some (some (V.ref a)) → i = j
theorem Wd.own {K : PySem.W.Frag} {F H : Hp} {r : Env} {σ : SG} {a : Addr} (w : Wd K F H r σ) (h : Own r σ a) : F a = none ∧ ∃ o, H a = some o := by
  obtain ⟨i, d, h1, h2⟩ := h
  obtain ⟨b, e, q⟩ := w.sl i _ h1
  rw [h2] at e
  cases e
  exact ⟨q.1, q.some⟩
/-- from (F, H) to (F', H'): what is frozen stays, more is frozen of what was new or owned, all else but the owned stays -/
structure Fr (O : Addr → Prop) (F H F' H' : Hp) : Prop where
  ff : Same F F'
  new : ∀ a o, F' a = some o → F a = some o ∨ (F a = none ∧ (O a ∨ H a = none))
  hh : ∀ a o, H a = some o → ¬ O a → H' a = some o
abbrev noO : Addr → Prop := fun _ => False
section
variable {K : PySem.W.Frag} {O O1 : Addr → Prop} {F H F1 H1 F2 H2 : Hp}
theorem Fr.refl : Fr O F H F H := ⟨Same.refl _, fun _ _ h => .inl h, fun _ _ h _ => h⟩
theorem Fr.trans (a : Fr O F H F1 H1) (b : Fr O1 F1 H1 F2 H2) (h : ∀ c, O1 c → O c ∨ H c = none) : Fr O F H F2 H2 := by
  refine ⟨a.ff.trans b.ff, fun c o e => ?_, fun c o e n => ?_⟩
  · rcases b.new c o e with q | ⟨q, z⟩
    · exact a.new c o q
    · right
      refine ⟨a.ff.free q, ?_⟩
      rcases z with z | z
      · exact h c z
      · by_cases no : O c
        · exact .inl no
        · right
          cases k : H c with
          | none => rfl
          | some u => rw [a.hh c u k no] at z; cases z
  · refine b.hh c o (a.hh c o e n) fun q => ?_
    rcases h c q with z | z
    · exact n z
    · rw [e] at z; cases z
theorem Fr.weak (a : Fr O F H F1 H1) (h : ∀ c, O c → O1 c ∨ H c = none) : Fr O1 F H F1 H1 := Fr.trans Fr.refl a h
theorem Fr.up (a : Fr O F H F1 H1) {p : Addr} {o : HO} (hp : H1 p = none) : Fr O F H F1 (upd H1 p o) :=
  ⟨a.ff, a.new, fun c u e n => by rw [upd_ne (ne_of_none (a.hh c u e n) hp)]; exact a.hh c u e n⟩
theorem Fr.upF (a : Fr O F H F1 H1) (le : Same F1 H1) {p : Addr} {o : HO} (hp : H1 p = none) : Fr O F H (upd F1 p o) (upd H1 p o) := by
  have hF : F1 p = none := le.free hp
  refine ⟨fun c u e => by rw [upd_ne (ne_of_none (a.ff c u e) hF)]; exact a.ff c u e, fun c u e => ?_, fun c u e n => by rw [upd_ne (ne_of_none (a.hh c u e n) hp)]; exact a.hh c u e n⟩
  by_cases h : c = p
  · subst h
    right
    refine ⟨a.ff.free hF, ?_⟩
    by_cases no : O c
    · exact .inl no
    · right
      cases k : H c with
      | none => rfl
      | some u => rw [a.hh c u k no] at hp; cases hp
  · rw [upd_ne h] at e
    exact a.new c u e
theorem same_up {p : Addr} {o : HO} (hp : H p = none) : Same H (upd H p o) := fun c u e => by rw [upd_ne (ne_of_none e hp)]; exact e
theorem same_up2 (le : Same F H) {p : Addr} {o : HO} (hp : H p = none) : Same (upd F p o) (upd H p o) := fun c u e => by
  by_cases h : c = p
  · subst h; rw [upd_same] at e ⊢; exact e
  · rw [upd_ne h] at e ⊢; exact le c u e
/-- an owned thing carried on -/
theorem OwnAt.go {d : PyData} {a : Addr} (h : OwnAt K F H d a) (f : Fr O F H F1 H1) (n : ¬ O a) : OwnAt K F1 H1 d a := by
  obtain ⟨o, ho⟩ := h.some
  have hF : F1 a = none := by
    cases k : F1 a with
    | none => rfl
    | some u =>
      rcases f.new a u k with q | ⟨_, q⟩
      · rw [h.1] at q; cases q
      · rcases q with q | q
        · exact (n q).elim
        · rw [ho] at q; cases q
  refine ⟨hF, ?_⟩
  obtain ⟨_, h⟩ := h
  cases d with
  | list xs => obtain ⟨vs, e, q⟩ := h; exact ⟨vs, f.hh a _ e n, RpA.mono f.ff _ _ q⟩
  | dict kvs => obtain ⟨vs, e, q⟩ := h; exact ⟨vs, f.hh a _ e n, RpK.mono f.ff _ _ q⟩
  | _ => exact h.elim
end
section
variable {K : PySem.W.Frag} {F H F1 H1 F2 H2 : Hp} {r r1 r2 : Env} {σ : SG}
/-- a world carried over what touches nothing owned -/
theorem Wd.go (w : Wd K F H r σ) (f : Fr noO F H F1 H1) (le : Same F1 H1) : Wd K F1 H1 r σ := by
  refine ⟨le, w.len, fun i x e => ?_, w.inj⟩
  have q := w.sl i x e
  cases x with
  | no => trivial
  | fr d => obtain ⟨v, e1, z⟩ := q; exact ⟨v, e1, Rp.mono f.ff _ _ z⟩
  | ow d => obtain ⟨a, e1, z⟩ := q; exact ⟨a, e1, z.go f id⟩
  | lk i => exact q.elim
  | ln i => exact q.elim

/-- what a value stands for -/
def RpV (K : PySem.W.Frag) (F H : Hp) (r : Env) (σ : SG) : Sl → V → Prop
  | .no, _ => False
  | .fr d, v => Rp K F d v
  | .ow d, v => ∃ a, v = .ref a ∧ OwnAt K F H d a ∧ ¬ Own r σ a
  | .lk i, v => σ[i]? = some (some v)
  | .ln i, v => σ[i]? = some (some v)
/-- a value of one's own is new, or was a slot's -/
def Nw (r : Env) (σ : SG) (H : Hp) (w : Sl) (v : V) : Prop := match w with
  | .ow _ => ∀ a, v = .ref a → (H a = none ∨ Own r σ a)
  | _ => True
structure Pe (K : PySem.W.Frag) (F H : Hp) (r : Env) (σ : SG) (r' : Env) (w : Sl) (v : V) (F' H' : Hp) : Prop where
  fr : Fr (Own r σ) F H F' H'
  wd : Wd K F' H' r' σ
  sub : ∀ a, Own r' σ a → Own r σ a
  rp : RpV K F' H' r' σ w v
  nw : Nw r σ H w v
theorem RpV.go {w : Sl} {v : V} (q : RpV K F1 H1 r1 σ w v) (f : Fr (Own r1 σ) F1 H1 F2 H2) (sub : ∀ a, Own r2 σ a → Own r1 σ a) : RpV K F2 H2 r2 σ w v := by
  cases w with
  | no => exact q.elim
  | fr d => exact Rp.mono f.ff _ _ q
  | ow d => obtain ⟨a, e, z, n⟩ := q; exact ⟨a, e, z.go f n, fun k => n (sub a k)⟩
  | lk i => exact q
  | ln i => exact q
/-- a value's evaluation, kept over a later one -/
theorem Pe.keep {w : Sl} {v : V} (p : Pe K F H r σ r1 w v F1 H1) (f : Fr (Own r1 σ) F1 H1 F2 H2) (wd : Wd K F2 H2 r2 σ) (sub : ∀ a, Own r2 σ a → Own r1 σ a) : Pe K F H r σ r2 w v F2 H2 :=
  ⟨p.fr.trans f fun c k => .inl (p.sub c k), wd, fun a k => p.sub a (sub a k), p.rp.go f sub, p.nw⟩

/-- a look: frozen data, or an owned thing -/
def Vw (K : PySem.W.Frag) (F H : Hp) (d : PyData) (v : V) : Prop := Rp K F d v ∨ ∃ a, v = .ref a ∧ OwnAt K F H d a
theorem see_ok {w : Sl} {v : V} {d : PyData} (wd : Wd K F H r σ) (q : RpV K F H r σ w v) (e : see r w = some d) : Vw K F H d v := by
  cases w with
  | no => exact q.elim
  | fr x => cases e; exact .inl q
  | ow x => cases e; obtain ⟨a, e1, z, _⟩ := q; exact .inr ⟨a, e1, z⟩
  | ln i => cases e
  | lk i =>
    simp only [see] at e
    cases h : r[i]? with
    | none => rw [h] at e; cases e
    | some x =>
      rw [h] at e
      have z := wd.sl i x h
      cases x with
      | fr y =>
        cases e
        obtain ⟨u, e1, z⟩ := z
        rw [show σ[i]? = some (some v) from q] at e1
        cases e1
        exact .inl z
      | ow y =>
        cases e
        obtain ⟨u, e1, z⟩ := z
        rw [show σ[i]? = some (some v) from q] at e1
        cases e1
        exact .inr ⟨u, rfl, z⟩
      | _ => cases e
theorem Vw.rp {d : PyData} {v : V} (le : Same F H) (q : Vw K F H d v) : Rp K H d v := by
  rcases q with q | ⟨a, rfl, _, q⟩
  · exact Rp.mono le _ _ q
  · cases d with
    | list xs => obtain ⟨vs, e, z⟩ := q; exact ⟨a, vs, rfl, .inl (.inl e), RpA.mono le _ _ z⟩
    | dict xs => obtain ⟨vs, e, z⟩ := q; exact ⟨a, vs, rfl, .inl e, RpK.mono le _ _ z⟩
    | _ => exact q.elim
theorem Vw.lst {xs : List PyData} {v : V} (le : Same F H) (q : Vw K F H (.list xs) v) : ∃ a vs, v = .ref a ∧ SqL K H a vs ∧ RpA K F xs vs := by
  rcases q with q | ⟨a, rfl, _, q⟩
  · obtain ⟨a, vs, e, s, z⟩ := (show ∃ a vs, v = .ref a ∧ SqL K F a vs ∧ RpA K F xs vs from q)
    exact ⟨a, vs, e, SqL.mono le s, z⟩
  · obtain ⟨vs, e, z⟩ := q
    exact ⟨a, vs, rfl, .inl (.inl e), z⟩
theorem Vw.tup {xs : List PyData} {v : V} (q : Vw K F H (.tuple xs) v) : ∃ a vs, v = .ref a ∧ SqT K F a vs ∧ RpA K F xs vs := by
  rcases q with q | ⟨a, rfl, _, q⟩
  · exact q
  · exact q.elim
theorem Vw.int {i : Int} {v : V} (q : Vw K F H (.int i) v) : v = .int i := by
  rcases q with q | ⟨a, rfl, _, q⟩
  · exact q
  · exact q.elim
theorem Vw.bool {i : Bool} {v : V} (q : Vw K F H (.bool i) v) : v = .bl i := by
  rcases q with q | ⟨a, rfl, _, q⟩
  · exact q
  · exact q.elim
theorem Vw.str {i : Str} {v : V} (q : Vw K F H (.str i) v) : v = .str i := by
  rcases q with q | ⟨a, rfl, _, q⟩
  · exact q
  · exact q.elim
theorem Vw.none {v : V} (q : Vw K F H .none v) : v = .non := by
  rcases q with q | ⟨a, rfl, _, q⟩
  · exact q
  · exact q.elim
def VwL (K : PySem.W.Frag) (F H : Hp) : List PyData → List V → Prop
  | [], vs => vs = []
  | d :: ds, vs => ∃ v r, vs = v :: r ∧ Vw K F H d v ∧ VwL K F H ds r

/-- what an operator gives, from (F, H) on -/
def Gv (K : PySem.W.Frag) (F H : Hp) (w : Sl) (v : V) (F' H' : Hp) : Prop := match w with
  | .fr d => Rp K F' d v
  | .ow d => ∃ a, v = .ref a ∧ OwnAt K F' H' d a ∧ H a = none
  | _ => False
def Res (K : PySem.W.Frag) (F H : Hp) (w : Sl) (Q : VK) : Prop := ∀ v F' H', Fr noO F H F' H' → Same F' H' → Gv K F H w v F' H' → Q v H'
theorem Res.same {d : PyData} {v : V} {Q : VK} (h : Res K F H (.fr d) Q) (le : Same F H) (q : Rp K F d v) : Q v H := h v F H Fr.refl le q
theorem Res.newL {xs : List PyData} {vs : List V} {p : Addr} {Q : VK} (h : Res K F H (.ow (.list xs)) Q) (le : Same F H) (q : RpA K F xs vs) (hp : H p = none) : Q (.ref p) (upd H p (.lst vs)) :=
  h (.ref p) F _ (Fr.refl.up hp) (le.trans (same_up hp)) ⟨p, rfl, ⟨le.free hp, vs, upd_same, q⟩, hp⟩
theorem Res.newT {xs : List PyData} {vs : List V} {p : Addr} {Q : VK} (h : Res K F H (.fr (.tuple xs)) Q) (le : Same F H) (q : RpA K F xs vs) (hp : H p = none) : Q (.ref p) (upd H p (.tup vs)) :=
  h (.ref p) (upd F p (.tup vs)) _ (Fr.refl.upF le hp) (same_up2 le hp) ⟨p, vs, rfl, .inl (.inl upd_same), RpA.mono (same_up (le.free hp)) _ _ q⟩
/-- an operator's result, as an expression's -/
theorem Pe.res {w : Sl} {v : V} (f : Fr (Own r σ) F H F1 H1) (wd : Wd K F1 H1 r1 σ) (sub : ∀ a, Own r1 σ a → Own r σ a) (f2 : Fr noO F1 H1 F2 H2) (le : Same F2 H2) (g : Gv K F1 H1 w v F2 H2) : Pe K F H r σ r1 w v F2 H2 := by
  refine ⟨f.trans f2 fun _ z => z.elim, wd.go f2 le, sub, ?_, ?_⟩
  · cases w with
    | fr d => exact g
    | ow d =>
      obtain ⟨a, e, o, n⟩ := g
      exact ⟨a, e, o, fun k => by obtain ⟨_, u, hu⟩ := wd.own k; rw [n] at hu; cases hu⟩
    | _ => exact (show False from g).elim
  · cases w with
    | ow d =>
      obtain ⟨a, e, o, n⟩ := g
      intro b eb
      rw [e] at eb
      cases eb
      by_cases no : Own r σ a
      · exact .inr no
      · left
        cases k : H a with
        | none => rfl
        | some u => rw [f.hh a u k no] at n; cases n
    | _ => trivial
end

/-! ### expressions: the judgement -/
section
variable (C : Call) (K : PySem.W.Frag)
def tE (e : Ex) : TE := fun σ H Q => ∃ F r w r', Wd K F H r σ ∧ evE C e r = some (w, r') ∧ ∀ v F' H', Pe K F H r σ r' w v F' H' → Q v H'
/-- a test -/
def tT (e : Ex) : TT := fun σ H Q => ∃ F r b r', Wd K F H r σ ∧ evE C e r = some (.fr (.bool b), r') ∧ ∀ F' H', Fr (Own r σ) F H F' H' → Wd K F' H' r' σ → (∀ a, Own r' σ a → Own r σ a) → Q b H'
end
end Bx

set_option Elab.async false
set_option linter.all false
set_option maxRecDepth 100000
set_option autoImplicit false
set_option maxHeartbeats 2000000
/-! Operators on data. -/
namespace Bx
open PySem PySem.Spec PyProof.Rows L2

theorem SZ_eq : SZ = sizeLine := by rw [sizeLine_eq]; rfl
section
variable {X : Cx} {pins : List (Addr × Obj)} {σ : SG} {H F : Hp} {s : Shared}

/-! data without dicts read off the heap -/
mutual
theorem rp_dp {K : PySem.W.Frag} {H : Hp} : ∀ (d : PyData) (v : V), d.plain = true → Rp K H d v → Dp K H v d
  | .none, v, _, q => by unfold Rp at q; subst q; exact .non
  | .bool b, v, _, q => by unfold Rp at q; subst q; exact .bl b
  | .int i, v, _, q => by unfold Rp at q; subst q; exact .int i
  | .str x, v, _, q => by unfold Rp at q; subst q; exact .str x
  | .list xs, v, p, q => by
    unfold Rp at q
    obtain ⟨a, vs, rfl, h, r⟩ := q
    exact .lst h (rpA_dp xs vs (by simpa [PyData.plain] using p) r)
  | .tuple xs, v, p, q => by
    unfold Rp at q
    obtain ⟨a, vs, rfl, h, r⟩ := q
    exact .tup h (rpA_dp xs vs (by simpa [PyData.plain] using p) r)
  | .dict kvs, v, p, q => by simp [PyData.plain] at p
theorem rpA_dp {K : PySem.W.Frag} {H : Hp} : ∀ (ds : List PyData) (vs : List V), PyData.plainAll ds = true → RpA K H ds vs → DpAll K H vs ds
  | [], vs, _, q => by unfold RpA at q; subst q; exact .nil
  | x :: xs, vs, p, q => by
    unfold RpA at q
    obtain ⟨v, r, rfl, a, b⟩ := q
    have p' : x.plain = true ∧ PyData.plainAll xs = true := by simpa [PyData.plainAll] using p
    exact .cons (rp_dp x v p'.1 a) (rpA_dp xs r p'.2 b)
end
theorem rp_reads (I : Inv X pins σ H s) {d : PyData} {v : V} {u : Value} (p : d.plain = true) (q : Rp X.K H d v) (r : RelV v u) : ∃ as, Reads s.heap u d as := Dp.reads I d v u (rp_dp d v p q) r
theorem rpA_reads (I : Inv X pins σ H s) {ds : List PyData} {vs : List V} {us : List Value} (p : PyData.plainAll ds = true) (q : RpA X.K H ds vs) (r : Vals vs us) : ∃ as, ReadsAll s.heap us ds as := Dp.readsAll I ds vs us (rpA_dp ds vs p q) r

/-! ### + - * // % ** << -/
def bopA : BOp → Operator
  | .add => .Add
  | .sub => .Sub
  | .mul => .Mult
  | .fdiv => .FloorDiv
  | .mod => .Mod
  | .pow => .Pow
  | .shl => .LShift
def rBin (K : PySem.W.Frag) (o : BOp) : R2 := fun x y H Q => ∃ F d e w, Same F H ∧ Vw K F H d x ∧ Vw K F H e y ∧ binD o d e = some w ∧ Res K F H w Q
theorem small_of {i : Int} (h : smallI i = true) : -(2 ^ 64) < i ∧ i < 2 ^ 64 := by
  unfold smallI at h
  have h := of_decide_eq_true h
  have e : (2 : Int) ^ 64 = 18446744073709551616 := by decide
  rw [e]
  omega
theorem cat_lists (I : Inv X pins σ H s) {a b : Addr} {vs ws : List V} {Q : VK} (ha : SqL X.K H a vs) (hb : SqL X.K H b ws) (hz : vs.length + ws.length ≤ sizeLine)
    (q : ∀ p, H p = none → Q (.ref p) (upd H p (.lst (vs ++ ws)))) : wpAny (model X.prog X.w) X.A (binaryOp .Add (.ref a) (.ref b)) (EP X pins σ Q) X.xe s := by
  obtain ⟨is1, r1, p1, z1⟩ := I.list ha
  obtain ⟨is2, r2, p2, z2⟩ := I.list hb
  obtain ⟨⟨c1, d1, da1, s1⟩, h1, hc1, n1, hd1⟩ := p1.isList
  obtain ⟨⟨c2, d2, da2, s2⟩, h2, hc2, n2, hd2⟩ := p2.isList
  simp only at hc1 hd1 hc2 hd2
  subst hc1 hd1 hc2 hd2
  have l1 := r1.length
  have l2 := r2.length
  refine PySem.concat_meets ⟨_, h1, rfl⟩ ⟨_, h2, rfl⟩ noFill_list_add seq_list_add PySem.F.slot_list_add PySem.F.entry_list_add (PySem.F.args_list_add_2 _ _)
    (list_addW a b is1.toArray is2.toArray n1 n2 d1 d2 s1 s2 (by simp; omega)) ⟨h1, h2, ?_⟩
  have e : is1.toArray ++ is2.toArray = (is1 ++ is2).toArray := by simp
  rw [e]
  exact ⟨.ref _, _, I.lnew (t' := s.toks) (r1.append r2) (by rw [List.length_append]; exact hz), rfl, q _ I.fresh⟩
theorem op_binD (o : BOp) : OpR X (binaryOp (bopA o)) (rBin X.K o) := by
  intro pins s σ H x y v u Q I rx ry h
  obtain ⟨F, d, e, w, le, hx, hy, hb, q⟩ := h
  unfold binD at hb
  split at hb
  · cases hb
    obtain rfl := hx.int
    obtain rfl := hy.int
    exact op_add pins s σ H _ _ v u Q I rx ry ⟨_, _, rfl, rfl, q.same le rfl⟩
  · split at hb
    · cases hb
      obtain rfl := hx.str
      obtain rfl := hy.str
      exact op_add_str pins s σ H _ _ v u Q I rx ry ⟨_, _, rfl, rfl, by rw [← SZ_eq]; assumption, q.same le rfl⟩
    · cases hb
  · split at hb
    · cases hb
      rename_i hz
      obtain ⟨a, vs, rfl, sa, ra⟩ := hx.tup
      obtain ⟨b, ws, rfl, sb, rb⟩ := hy.tup
      have l1 := ra.len
      have l2 := rb.len
      refine op_catA pins s σ H _ _ v u Q I rx ry ⟨a, b, vs, ws, rfl, rfl, SqT.mono le sa, SqT.mono le sb, by rw [← SZ_eq, ← l1, ← l2]; exact hz, fun e => ?_, fun _ e => ?_, fun _ _ p hp => ?_⟩
      · subst e
        obtain rfl := List.eq_nil_of_length_eq_zero l1
        exact q.same le ⟨b, ws, rfl, sb, rb⟩
      · subst e
        obtain rfl := List.eq_nil_of_length_eq_zero l2
        exact q.same le ⟨a, vs, rfl, sa, by rw [List.append_nil]; exact ra⟩
      · exact q.newT le (ra.app rb) hp
    · cases hb
  · split at hb
    · cases hb
      rename_i hz
      obtain ⟨a, vs, rfl, sa, ra⟩ := hx.lst le
      obtain ⟨b, ws, rfl, sb, rb⟩ := hy.lst le
      have l1 := ra.len
      have l2 := rb.len
      cases rx
      cases ry
      exact cat_lists I sa sb (by rw [← SZ_eq, ← l1, ← l2]; exact hz) fun p hp => q.newL le (ra.app rb) hp
    · cases hb
  · cases hb
    obtain rfl := hx.int
    obtain rfl := hy.int
    exact op_sub pins s σ H _ _ v u Q I rx ry ⟨_, _, rfl, rfl, q.same le rfl⟩
  · split at hb
    · cases hb
      rename_i i j hz
      obtain rfl := hx.int
      obtain rfl := hy.int
      have hz' : smallI i = true ∨ smallI j = true := by simpa using hz
      exact op_mul pins s σ H _ _ v u Q I rx ry ⟨_, _, rfl, rfl, hz'.imp small_of small_of, q.same le rfl⟩
    · cases hb
  · split at hb
    · cases hb
      rename_i i j hz
      obtain rfl := hx.int
      obtain rfl := hy.int
      exact op_fdiv pins s σ H _ _ v u Q I rx ry ⟨_, _, rfl, rfl, hz, q.same le rfl⟩
    · cases hb
  · split at hb
    · cases hb
      rename_i i j hz
      obtain rfl := hx.int
      obtain rfl := hy.int
      exact op_mod pins s σ H _ _ v u Q I rx ry ⟨_, _, rfl, rfl, hz, q.same le rfl⟩
    · cases hb
  · split at hb
    · cases hb
      rename_i i j hz
      obtain rfl := hx.int
      obtain rfl := hy.int
      exact op_pow pins s σ H _ _ v u Q I rx ry ⟨_, _, rfl, rfl, hz, q.same le rfl⟩
    · cases hb
  · split at hb
    · cases hb
      rename_i i j hz
      obtain rfl := hx.int
      obtain rfl := hy.int
      exact op_shl pins s σ H _ _ v u Q I rx ry ⟨_, _, rfl, rfl, hz, q.same le rfl⟩
    · cases hb
  · cases hb

/-! ### comparisons -/
def copA : COp → CmpOp
  | .eq => .Eq
  | .ne => .NotEq
  | .lt => .Lt
  | .le => .LtE
  | .gt => .Gt
  | .ge => .GtE
  | .isin => .In
  | .notin => .NotIn
  | .is => .Is
  | .isnot => .IsNot
def rCmp (K : PySem.W.Frag) (o : COp) : R2 := fun x y H Q => ∃ F d e c, Same F H ∧ Vw K F H d x ∧ Vw K F H e y ∧ cmpD o d e = some c ∧ Q (.bl c) H
theorem okD_of {d : PyData} (h : okD d = true) : d.plain = true ∧ d.depth ≤ 64 := by
  unfold okD at h
  simpa using h
theorem op_cmpD (o : COp) (hu : X.A.units + 100 < cLine) : OpR X (compareOp (copA o)) (rCmp X.K o) := by
  intro pins s σ H x y v u Q I rx ry h
  obtain ⟨F, d, e, c, le, hx, hy, hb, q⟩ := h
  have fin : EP X pins σ Q (.bool c) s := ⟨.bl c, H, I, rfl, q⟩
  have wx := hx.rp le
  have wy := hy.rp le
  unfold cmpD at hb
  split at hb
  · split at hb
    · cases hb
      rename_i hz
      have hz' : okD d = true ∧ okD e = true := by simpa using hz
      obtain ⟨p1, z1⟩ := okD_of hz'.1
      obtain ⟨p2, z2⟩ := okD_of hz'.2
      obtain ⟨as, r1⟩ := rp_reads I p1 wx rx
      obtain ⟨bs, r2⟩ := rp_reads I p2 wy ry
      exact PySem.SeqAt.eq_plain r1 r2 p1 p2 (by omega) fin
    · cases hb
  · split at hb
    · cases hb
      rename_i hz
      have hz' : okD d = true ∧ okD e = true := by simpa using hz
      obtain ⟨p1, z1⟩ := okD_of hz'.1
      obtain ⟨p2, z2⟩ := okD_of hz'.2
      obtain ⟨as, r1⟩ := rp_reads I p1 wx rx
      obtain ⟨bs, r2⟩ := rp_reads I p2 wy ry
      exact PySem.SeqAt.ne_plain r1 r2 p1 p2 (by omega) fin
    · cases hb
  · cases hb
    obtain rfl := hx.int
    obtain rfl := hy.int
    exact op_lt pins s σ H _ _ v u Q I rx ry ⟨_, _, rfl, rfl, q⟩
  · cases hb
    obtain rfl := hx.int
    obtain rfl := hy.int
    exact op_le pins s σ H _ _ v u Q I rx ry ⟨_, _, rfl, rfl, q⟩
  · cases hb
    obtain rfl := hx.int
    obtain rfl := hy.int
    exact op_gt pins s σ H _ _ v u Q I rx ry ⟨_, _, rfl, rfl, q⟩
  · cases hb
    obtain rfl := hx.int
    obtain rfl := hy.int
    exact op_ge pins s σ H _ _ v u Q I rx ry ⟨_, _, rfl, rfl, q⟩
  · cases hb
    rename_i a b
    obtain rfl := hx.bool
    obtain rfl := hy.bool
    exact op_isBl pins s σ H _ _ v u Q I rx ry ⟨a, b, rfl, rfl, by cases a <;> cases b <;> exact q⟩
  · cases hb
    rename_i a b
    obtain rfl := hx.bool
    obtain rfl := hy.bool
    exact op_notBl pins s σ H _ _ v u Q I rx ry ⟨a, b, rfl, rfl, by cases a <;> cases b <;> exact q⟩
  · cases hb
    obtain rfl := hy.none
    refine op_isN pins s σ H _ _ v u Q I rx ry ⟨rfl, ?_⟩
    cases d with
    | none => obtain rfl := hx.none; exact q
    | bool b => obtain rfl := hx.bool; exact q
    | int b => obtain rfl := hx.int; exact q
    | str b => obtain rfl := hx.str; exact q
    | list xs => obtain ⟨a, vs, rfl, _⟩ := hx.lst le; exact q
    | tuple xs => obtain ⟨a, vs, rfl, _⟩ := hx.tup; exact q
    | dict xs =>
      unfold Rp at wx
      obtain ⟨a, vs, rfl, _⟩ := wx
      exact q
  · cases hb
    obtain rfl := hy.none
    refine op_notN pins s σ H _ _ v u Q I rx ry ⟨rfl, ?_⟩
    cases d with
    | none => obtain rfl := hx.none; exact q
    | bool b => obtain rfl := hx.bool; exact q
    | int b => obtain rfl := hx.int; exact q
    | str b => obtain rfl := hx.str; exact q
    | list xs => obtain ⟨a, vs, rfl, _⟩ := hx.lst le; exact q
    | tuple xs => obtain ⟨a, vs, rfl, _⟩ := hx.tup; exact q
    | dict xs =>
      unfold Rp at wx
      obtain ⟨a, vs, rfl, _⟩ := wx
      exact q
  · split at hb
    · cases hb
      rename_i ys hz
      have hz' : okD d = true ∧ okD (.list ys) = true := by simpa using hz
      obtain ⟨p1, z1⟩ := okD_of hz'.1
      obtain ⟨p2, z2⟩ := okD_of hz'.2
      obtain ⟨as, r1⟩ := rp_reads I p1 wx rx
      obtain ⟨bs, r2⟩ := rp_reads I p2 wy ry
      simp only [PyData.depth] at z2
      exact PySem.SeqAt.in_list_data r2 r1 (by simpa [PyData.plain] using p2) p1 (by omega) fin
    · cases hb
  · split at hb
    · cases hb
      rename_i ys hz
      have hz' : okD d = true ∧ okD (.tuple ys) = true := by simpa using hz
      obtain ⟨p1, z1⟩ := okD_of hz'.1
      obtain ⟨p2, z2⟩ := okD_of hz'.2
      obtain ⟨as, r1⟩ := rp_reads I p1 wx rx
      obtain ⟨bs, r2⟩ := rp_reads I p2 wy ry
      simp only [PyData.depth] at z2
      exact PySem.SeqAt.in_tuple_data r2 r1 (by simpa [PyData.plain] using p2) p1 (by omega) fin
    · cases hb
  · split at hb
    · cases hb
      rename_i ys hz
      have hz' : okD d = true ∧ okD (.list ys) = true := by simpa using hz
      obtain ⟨p1, z1⟩ := okD_of hz'.1
      obtain ⟨p2, z2⟩ := okD_of hz'.2
      obtain ⟨as, r1⟩ := rp_reads I p1 wx rx
      obtain ⟨bs, r2⟩ := rp_reads I p2 wy ry
      simp only [PyData.depth] at z2
      exact PySem.SeqAt.notIn_list_data r2 r1 (by simpa [PyData.plain] using p2) p1 (by omega) fin
    · cases hb
  · split at hb
    · cases hb
      rename_i ys hz
      have hz' : okD d = true ∧ okD (.tuple ys) = true := by simpa using hz
      obtain ⟨p1, z1⟩ := okD_of hz'.1
      obtain ⟨p2, z2⟩ := okD_of hz'.2
      obtain ⟨as, r1⟩ := rp_reads I p1 wx rx
      obtain ⟨bs, r2⟩ := rp_reads I p2 wy ry
      simp only [PyData.depth] at z2
      exact PySem.SeqAt.notIn_tuple_data r2 r1 (by simpa [PyData.plain] using p2) p1 (by omega) fin
    · cases hb
  · cases hb

/-! ### items, slices -/
theorem atI_len {α : Type} {xs : List α} {i : Int} {d : α} (h : atI xs i = some d) : ∃ j, ixN xs.length i = some j ∧ xs[j]? = some d := by
  unfold atI at h
  cases e : ixN xs.length i with
  | none => rw [e] at h; cases h
  | some j => rw [e] at h; exact ⟨j, rfl, h⟩
theorem RpA.atI {K : PySem.W.Frag} {F : Hp} {ds : List PyData} {vs : List V} {i : Int} {d : PyData} (q : RpA K F ds vs) (h : L2.atI ds i = some d) : ∃ v, L2.atI vs i = some v ∧ Rp K F d v := by
  obtain ⟨j, h1, h2⟩ := atI_len h
  obtain ⟨v, h3, h4⟩ := q.at h2
  refine ⟨v, ?_, h4⟩
  unfold L2.atI
  rw [← q.len, h1]
  exact h3
def rIdx (K : PySem.W.Frag) : R2 := fun x y H Q => ∃ F d e g, Same F H ∧ Vw K F H d x ∧ Vw K F H e y ∧ idxD d e = some g ∧ ∀ v, Rp K F g v → Q v H
theorem ix_idxD : IxR X (rIdx X.K) := by
  intro value slice pins s σ H x y v u Q I rx ry h hs
  obtain ⟨F, d, e, g, le, hx, hy, hb, q⟩ := h
  unfold idxD at hb
  split at hb
  · obtain rfl := hy.int
    obtain ⟨a, vs, rfl, sa, ra⟩ := hx.lst le
    obtain ⟨w, h1, h2⟩ := ra.atI hb
    exact ix_list value slice pins s σ H _ _ v u Q I rx ry ⟨a, vs, _, w, rfl, rfl, sa, h1, q w h2⟩ hs
  · obtain rfl := hy.int
    obtain ⟨a, vs, rfl, sa, ra⟩ := hx.tup
    obtain ⟨w, h1, h2⟩ := ra.atI hb
    exact ix_tup value slice pins s σ H _ _ v u Q I rx ry ⟨a, vs, _, w, rfl, rfl, SqT.mono le sa, h1, q w h2⟩ hs
  · cases hb
theorem RpA.cut {K : PySem.W.Frag} {F : Hp} {ds : List PyData} {vs : List V} (lo hi : Option Int) (q : RpA K F ds vs) : RpA K F (cutL ds lo hi) (cutV vs lo hi) := by
  unfold cutL cutV
  rw [← q.len]
  exact (q.drop _).take _
def rSlD (K : PySem.W.Frag) : V → Option Int → Option Int → Hp → VK → Prop := fun x lo hi H Q => ∃ F d w, Same F H ∧ Vw K F H d x ∧ sliceD d lo hi = some w ∧ Res K F H w Q
theorem sl_sliceD : SlR X (rSlD X.K) := by
  intro pins s σ H x v vl vu lo hi sl Q I rx hs pl pu h
  obtain ⟨F, d, w, le, hx, hb, q⟩ := h
  unfold sliceD at hb
  split at hb
  · cases hb
    obtain ⟨a, vs, rfl, sa, ra⟩ := hx.lst le
    exact sl_list pins s σ H _ v vl vu lo hi sl Q I rx hs pl pu ⟨a, vs, rfl, sa, fun p hp => q.newL le (ra.cut lo hi) hp⟩
  · cases hb
    obtain ⟨a, vs, rfl, sa, ra⟩ := hx.tup
    refine sl_tupA pins s σ H _ v vl vu lo hi sl Q I rx hs pl pu ⟨a, vs, rfl, SqT.mono le sa, fun e => ?_, fun _ p hp => q.newT le (ra.cut lo hi) hp⟩
    refine q.same le ⟨a, vs, rfl, sa, ?_⟩
    have e2 : cutV vs lo hi = vs := by
      unfold cutV
      rw [e.1, e.2, List.drop_zero, Nat.sub_zero, List.take_length]
    have z := ra.cut lo hi
    rw [e2] at z
    exact z
  · cases hb
end
end Bx

set_option Elab.async false
set_option linter.all false
set_option maxRecDepth 100000
set_option autoImplicit false
set_option maxHeartbeats 2000000
/-! Built-in functions, isinstance, methods that change a list. -/
namespace Bx
open PySem PySem.Spec PyProof.Rows L2

section
variable {X : Cx}
theorem VwL.one {K : PySem.W.Frag} {F H : Hp} {d : PyData} {xs : List V} (q : VwL K F H [d] xs) : ∃ v, xs = [v] ∧ Vw K F H d v := by
  unfold VwL at q
  obtain ⟨v, r, rfl, a, b⟩ := q
  unfold VwL at b
  subst b
  exact ⟨v, rfl, a⟩
theorem VwL.two {K : PySem.W.Frag} {F H : Hp} {d e : PyData} {xs : List V} (q : VwL K F H [d, e] xs) : ∃ v w, xs = [v, w] ∧ Vw K F H d v ∧ Vw K F H e w := by
  unfold VwL at q
  obtain ⟨v, r, rfl, a, b⟩ := q
  obtain ⟨w, rfl, c⟩ := b.one
  exact ⟨v, w, rfl, a, c⟩
theorem VwL.zero {K : PySem.W.Frag} {F H : Hp} {xs : List V} (q : VwL K F H [] xs) : xs = [] := by
  unfold VwL at q
  exact q

def btV : Bt → Value
  | .len => .builtin "len"
  | .sum1 => .builtin "sum"
  | .min1 => .builtin "min"
  | .max1 => .builtin "max"
  | .min2 => .builtin "min"
  | .max2 => .builtin "max"
  | .abs => .builtin "abs"
  | .int1 => .type "int"
  | .str1 => .type "str"
  | .sorted => .builtin "sorted"
  | .repr => .builtin "repr"
  | .list1 => .type "list"
  | .tuple1 => .type "tuple"
  | .all => .builtin "all"
  | .any => .builtin "any"
def rBt (K : PySem.W.Frag) (b : Bt) : List V → Hp → VK → Prop := fun xs H Q => ∃ F ds w, Same F H ∧ VwL K F H ds xs ∧ btD b ds = some w ∧ Res K F H w Q

/-! ### sorted -/
theorem each_of {K : PySem.W.Frag} {F : Hp} : ∀ {ds : List PyData} {vs : List V} {us : List Value}, RpA K F ds vs → Vals vs us → PySem.W.EachIs (fun u d => ∃ v, RelV v u ∧ Rp K F d v) us ds
  | [], vs, us, q, r => by
    unfold RpA at q
    subst q
    cases r
    exact .nil
  | d :: ds, vs, us, q, r => by
    unfold RpA at q
    obtain ⟨v, t, rfl, a, b⟩ := q
    cases r with
    | cons r1 r2 => exact .cons ⟨v, r1, a⟩ (each_of b r2)
theorem of_each {K : PySem.W.Frag} {F : Hp} {us : List Value} {ds : List PyData} (h : PySem.W.EachIs (fun u d => ∃ v, RelV v u ∧ Rp K F d v) us ds) : ∃ vs, Vals vs us ∧ RpA K F ds vs := by
  induction h with
  | nil => exact ⟨[], .nil, RpA.nil⟩
  | cons h t ih =>
    obtain ⟨v, a, b⟩ := h
    obtain ⟨vs, c, d⟩ := ih
    exact ⟨v :: vs, .cons a c, RpA.cons b d⟩
theorem sorted_data_ok {xs : List PyData} (hs : sortOk xs = true) (hu : X.A.units + 100 < cLine) {pins : List (Addr × Obj)} {s : Shared} {σ : SG} {H F : Hp} {v : V} {u : Value} {Q : VK} (I : Inv X pins σ H s) (ru : RelV v u) (le : Same F H) (hv : Vw X.K F H (.list xs) v)
    (q : Res X.K F H (.ow (.list (xs.mergeSort (PySem.W.dataLe false id)))) Q) : wpAny (model X.prog X.w) X.A (call (.builtin "sorted") [u]) (EP X pins σ Q) X.xe s := by
  obtain ⟨a, vs, rfl, sa, ra⟩ := hv.lst le
  cases ru
  obtain ⟨us, rv, pl, hz⟩ := I.list sa
  simp only [sortOk, Bool.and_eq_true, Bool.or_eq_true, List.all_eq_true, decide_eq_true_eq] at hs
  obtain ⟨⟨⟨h1, h2⟩, h3⟩, h4⟩ := hs
  have ee := each_of ra rv
  have er : PySem.W.EachIs (fun w b => ∃ as, Reads s.heap w (id b) as) us xs := by
    refine PySem.W.EachIs.of_zip ee.length fun p hp => ?_
    obtain ⟨v, r1, r2⟩ := ee.zip p hp
    have hm : p.2 ∈ xs := (List.of_mem_zip hp).2
    exact rp_reads I (h2 _ hm).2 (Rp.mono le _ _ r2) r1
  refine PySem.W.sorted_data (R := fun u d => ∃ v, RelV v u ∧ Rp X.K F d v) (enc := id) pl.isList ee er ?_ ?_ (by rw [← SZ_eq]; exact h4) (fun b hb => ?_) fun out ho eo => ?_
  · rw [List.map_id]
    exact fun d hd d' hd' => h1 d hd d' hd'
  · rw [List.map_id]
    rcases h3 with h3 | h3
    · refine .inl fun d hd => ?_
      have z := h3 d hd
      cases d with
      | tuple ys =>
        cases ys with
        | nil => simp at z
        | cons y r => exact ⟨y, r, rfl⟩
      | _ => simp at z
    · refine .inr fun d hd => ?_
      have z := h3 d hd
      cases d with
      | tuple ys => simp at z
      | none => simp at z
      | _ => exact ⟨by simp, by simp⟩
  · have := (h2 b hb).1
    show X.A.units + 2 + b.depth < cLine
    omega
  · obtain ⟨ws, r1, r2⟩ := of_each eo
    obtain ⟨c, hc⟩ := sortedAll_at s.heap us out.toArray
    have hl : ws.length ≤ sizeLine := by
      rw [r1.length, ho, ← SZ_eq]
      exact h4
    refine ⟨.ref (s.heap.objs.size + 1), upd H (s.heap.objs.size + 1) (.lst ws), I.laid (t' := s.toks) (fun b o e => sortedAll_old e) (Nat.le_succ _) ⟨hl, out, c, r1, hc⟩, rfl, ?_⟩
    exact q.newL le r2 (I.hok.fresh (Nat.le_succ _))
/-! ### repr -/
theorem repr_data_ok {d : PyData} (hs : reprOk d = true) (hg : X.A.guards = some []) (hu : X.A.units + 100 < cLine) {pins : List (Addr × Obj)} {s : Shared} {σ : SG} {H F : Hp} {v : V} {u : Value} {Q : VK} (I : Inv X pins σ H s) (ru : RelV v u) (le : Same F H) (hv : Vw X.K F H d v)
    (q : Q (.str d.shown) H) : wpAny (model X.prog X.w) X.A (call (.builtin "repr") [u]) (EP X pins σ Q) X.xe s := by
  simp only [reprOk, Bool.and_eq_true, decide_eq_true_eq] at hs
  obtain ⟨⟨⟨h1, h2⟩, h3⟩, h4⟩ := hs
  have hz : d.shown.length ≤ sizeLine := by rw [← SZ_eq]; exact h3
  have wv := hv.rp le
  obtain ⟨as, rr⟩ := rp_reads I h1 wv ru
  have seqs : ∀ {a : Addr}, u = .ref a → wpAny (model X.prog X.w) X.A (call (.builtin "repr") [u]) (EP X pins σ Q) X.xe s := fun {a} e => by
    subst e
    have hd : d.hasDict = false := by
      have nd : (∀ d : PyData, d.plain = true → d.hasDict = false) := by
        intro d
        refine PyData.rec (motive_1 := fun d => d.plain = true → d.hasDict = false) (motive_2 := fun ds => PyData.plainAll ds = true → PyData.hasDictAll ds = false) (motive_3 := fun _ => True) (motive_4 := fun _ => True) ?_ ?_ ?_ ?_ ?_ ?_ ?_ ?_ ?_ ?_ ?_ ?_ d
        · intro _; simp [PyData.hasDict]
        · intro _ _; simp [PyData.hasDict]
        · intro _ _; simp [PyData.hasDict]
        · intro _ _; simp [PyData.hasDict]
        · intro xs ih p; simp only [PyData.hasDict]; exact ih (by simpa [PyData.plain] using p)
        · intro xs ih p; simp only [PyData.hasDict]; exact ih (by simpa [PyData.plain] using p)
        · intro _ _ p; simp [PyData.plain] at p
        · intro _; simp [PyData.hasDictAll]
        · intro x xs i1 i2 p
          have p' : x.plain = true ∧ PyData.plainAll xs = true := by simpa [PyData.plainAll] using p
          simp only [PyData.hasDictAll, i1 p'.1, i2 p'.2, Bool.or_self]
        · trivial
        · intros; trivial
        · intros; trivial
      exact nd d h1
    refine PySem.repr_of_reads' rr h2 (PySem.PyData.noDict_hsm hd) hg (by omega) (fun _ _ e => e) (fun h' t tk hk => ?_) hz
    exact ⟨.str d.shown, H, I.kept (t' := tk) hk, ⟨_, rfl⟩, q⟩
  cases d with
  | none =>
    obtain rfl := hv.none
    cases ru
    exact PySem.P.repr_of_none ⟨.str _, H, I.tok _, ⟨_, rfl⟩, q⟩
  | bool b =>
    obtain rfl := hv.bool
    cases ru
    refine PySem.P.repr_of_bool ⟨.str _, H, I.tok _, ⟨_, rfl⟩, ?_⟩
    cases b <;> exact q
  | int i =>
    obtain rfl := hv.int
    obtain ⟨t, rfl⟩ := ru
    exact PySem.P.repr_of_int (by simpa [PyData.showable] using h2) ⟨.str _, H, I.tok _, ⟨_, rfl⟩, q⟩
  | str x =>
    obtain rfl := hv.str
    obtain ⟨t, rfl⟩ := ru
    exact PySem.P.repr_of_str ⟨.str _, H, I.tok _, ⟨_, rfl⟩, q⟩ hz
  | list xs =>
    obtain ⟨a, vs, rfl, _⟩ := hv.lst le
    exact seqs (show u = .ref a from ru)
  | tuple xs =>
    obtain ⟨a, vs, rfl, _⟩ := hv.tup
    exact seqs (show u = .ref a from ru)
  | dict xs => simp [PyData.plain] at h1

/-! ### the least, the greatest -/
theorem foldl_min_mem : ∀ (l : List Int) (n : Int), (l.foldl min n = n ∨ l.foldl min n ∈ l) ∧ l.foldl min n ≤ n ∧ ∀ y ∈ l, l.foldl min n ≤ y
  | [], n => by simp
  | x :: l, n => by
    obtain ⟨h1, h2, h3⟩ := foldl_min_mem l (min n x)
    rw [List.foldl_cons]
    refine ⟨?_, by omega, fun y hy => ?_⟩
    · rcases h1 with h1 | h1
      · by_cases h : n ≤ x
        · left; omega
        · right; rw [h1, show min n x = x by omega]; exact List.mem_cons_self
      · right; exact List.mem_cons_of_mem _ h1
    · rcases List.mem_cons.mp hy with rfl | hy
      · omega
      · exact h3 y hy
theorem foldl_max_mem : ∀ (l : List Int) (n : Int), (l.foldl max n = n ∨ l.foldl max n ∈ l) ∧ n ≤ l.foldl max n ∧ ∀ y ∈ l, y ≤ l.foldl max n
  | [], n => by simp
  | x :: l, n => by
    obtain ⟨h1, h2, h3⟩ := foldl_max_mem l (max n x)
    rw [List.foldl_cons]
    refine ⟨?_, by omega, fun y hy => ?_⟩
    · rcases h1 with h1 | h1
      · by_cases h : x ≤ n
        · left; omega
        · right; rw [h1, show max n x = x by omega]; exact List.mem_cons_self
      · right; exact List.mem_cons_of_mem _ h1
    · rcases List.mem_cons.mp hy with rfl | hy
      · omega
      · exact h3 y hy
theorem min_uniq {n : Int} {ns : List Int} {m : Int} (h1 : m ∈ n :: ns) (h2 : ∀ y ∈ n :: ns, m ≤ y) : m = ns.foldl min n := by
  obtain ⟨a, b, c⟩ := foldl_min_mem ns n
  have hm : ns.foldl min n ∈ n :: ns := by
    rcases a with a | a
    · rw [a]; exact List.mem_cons_self
    · exact List.mem_cons_of_mem _ a
  have q1 := h2 _ hm
  have q2 : ns.foldl min n ≤ m := by
    rcases List.mem_cons.mp h1 with rfl | h
    · exact b
    · exact c m h
  omega
theorem max_uniq {n : Int} {ns : List Int} {m : Int} (h1 : m ∈ n :: ns) (h2 : ∀ y ∈ n :: ns, y ≤ m) : m = ns.foldl max n := by
  obtain ⟨a, b, c⟩ := foldl_max_mem ns n
  have hm : ns.foldl max n ∈ n :: ns := by
    rcases a with a | a
    · rw [a]; exact List.mem_cons_self
    · exact List.mem_cons_of_mem _ a
  have q1 := h2 _ hm
  have q2 : m ≤ ns.foldl max n := by
    rcases List.mem_cons.mp h1 with rfl | h
    · exact b
    · exact c m h
  omega
theorem bt_ok (b : Bt) (hc : X.calm = true) (hg : X.A.guards = some []) (hu : X.A.units + 100 < cLine) : CallR X (btV b) (rBt X.K b) := by
  intro pins s σ H xs us Q I r h
  obtain ⟨F, ds, w, le, hv, hb, q⟩ := h
  unfold btD at hb
  split at hb
  · cases hb
    obtain ⟨v, rfl, hx⟩ := hv.one
    obtain ⟨a, vs, rfl, sa, ra⟩ := hx.lst le
    exact call_len_seq pins s σ H _ us Q I r ⟨a, vs, rfl, .inl sa, by rw [← ra.len]; exact q.same le rfl⟩
  · cases hb
    obtain ⟨v, rfl, hx⟩ := hv.one
    obtain ⟨a, vs, rfl, sa, ra⟩ := hx.tup
    exact call_len_seq pins s σ H _ us Q I r ⟨a, vs, rfl, .inr (SqT.mono le sa), by rw [← ra.len]; exact q.same le rfl⟩
  · obtain ⟨v, rfl, hx⟩ := hv.one
    split at hb
    · rename_i ns e
      cases hb
      obtain ⟨a, vs, rfl, sa, ra⟩ := hx.lst le
      obtain rfl := ra.ints e
      exact cr_sum hc pins s σ H _ us Q I r ⟨a, ns, rfl, sa, q.same le rfl⟩
    · cases hb
  · obtain ⟨v, rfl, hx⟩ := hv.one
    split at hb
    · rename_i n ns e
      cases hb
      obtain ⟨a, vs, rfl, sa, ra⟩ := hx.lst le
      obtain rfl := ra.ints e
      exact cr_min hc pins s σ H _ us Q I r ⟨a, n :: ns, rfl, sa, by simp, fun m hm hy => by rw [min_uniq hm hy]; exact q.same le rfl⟩
    · cases hb
  · obtain ⟨v, rfl, hx⟩ := hv.one
    split at hb
    · rename_i n ns e
      cases hb
      obtain ⟨a, vs, rfl, sa, ra⟩ := hx.lst le
      obtain rfl := ra.ints e
      exact cr_max hc pins s σ H _ us Q I r ⟨a, n :: ns, rfl, sa, by simp, fun m hm hy => by rw [max_uniq hm hy]; exact q.same le rfl⟩
    · cases hb
  · cases hb
    rename_i i j
    obtain ⟨v, w, rfl, hx, hy⟩ := hv.two
    obtain rfl := hx.int
    obtain rfl := hy.int
    refine call_min2 hc pins s σ H _ us Q I r ⟨i, j, rfl, ?_⟩
    rw [show (if j < i then j else i) = min i j by split <;> omega]
    exact q.same le rfl
  · cases hb
    rename_i i j
    obtain ⟨v, w, rfl, hx, hy⟩ := hv.two
    obtain rfl := hx.int
    obtain rfl := hy.int
    refine call_max2 hc pins s σ H _ us Q I r ⟨i, j, rfl, ?_⟩
    rw [show (if j > i then j else i) = max i j by split <;> omega]
    exact q.same le rfl
  · cases hb
    rename_i i
    obtain ⟨v, rfl, hx⟩ := hv.one
    obtain rfl := hx.int
    refine call_abs pins s σ H _ us Q I r ⟨i, rfl, ?_⟩
    rw [show (if i < 0 then -i else i) = (i.natAbs : Int) by split <;> omega]
    exact q.same le rfl
  · cases hb
    rename_i i
    obtain ⟨v, rfl, hx⟩ := hv.one
    obtain rfl := hx.int
    exact call_int1 pins s σ H _ us Q I r (.inl ⟨i, rfl, q.same le rfl⟩)
  · cases hb
    rename_i i
    obtain ⟨v, rfl, hx⟩ := hv.one
    obtain rfl := hx.bool
    exact call_int1 pins s σ H _ us Q I r (.inr ⟨i, rfl, q.same le rfl⟩)
  · split at hb
    · cases hb
      obtain ⟨v, rfl, hx⟩ := hv.one
      obtain ⟨u, rfl, ru⟩ := vals1 r
      exact sorted_data_ok (by assumption) hu I ru le hx q
    · cases hb
  · split at hb
    · cases hb
      obtain ⟨v, rfl, hx⟩ := hv.one
      obtain ⟨u, rfl, ru⟩ := vals1 r
      exact repr_data_ok (by assumption) hg hu I ru le hx (q.same le rfl)
    · cases hb
  · split at hb
    · cases hb
      rename_i i hz
      obtain ⟨v, rfl, hx⟩ := hv.one
      obtain rfl := hx.int
      exact call_str_int pins s σ H _ us Q I r ⟨i, rfl, hz, q.same le rfl⟩
    · cases hb
  · cases hb
    obtain ⟨v, rfl, hx⟩ := hv.one
    obtain ⟨a, vs, rfl, sa, ra⟩ := hx.lst le
    exact call_list_of pins s σ H _ us Q I r ⟨a, vs, rfl, .inl sa, fun p hp => q.newL le ra hp⟩
  · cases hb
    obtain ⟨v, rfl, hx⟩ := hv.one
    obtain ⟨a, vs, rfl, sa, ra⟩ := hx.tup
    exact call_list_of pins s σ H _ us Q I r ⟨a, vs, rfl, .inr (SqT.mono le sa), fun p hp => q.newL le ra hp⟩
  · cases hb
    obtain ⟨v, rfl, hx⟩ := hv.one
    obtain ⟨a, vs, rfl, sa, ra⟩ := hx.lst le
    exact call_tuple_of pins s σ H _ us Q I r ⟨a, vs, rfl, .inl ⟨sa, fun p hp => q.newT le ra hp⟩⟩
  · cases hb
    obtain ⟨v, rfl, hx⟩ := hv.one
    obtain ⟨a, vs, rfl, sa, ra⟩ := hx.tup
    exact call_tuple_of pins s σ H _ us Q I r ⟨a, vs, rfl, .inr ⟨SqT.mono le sa, q.same le ⟨a, vs, rfl, sa, ra⟩⟩⟩
  · obtain ⟨v, rfl, hx⟩ := hv.one
    split at hb
    · rename_i bs e
      cases hb
      obtain ⟨a, vs, rfl, sa, ra⟩ := hx.lst le
      obtain rfl := ra.bools e
      exact cr_all hc pins s σ H _ us Q I r ⟨a, bs, rfl, sa, q.same le rfl⟩
    · cases hb
  · obtain ⟨v, rfl, hx⟩ := hv.one
    split at hb
    · rename_i bs e
      cases hb
      obtain ⟨a, vs, rfl, sa, ra⟩ := hx.lst le
      obtain rfl := ra.bools e
      exact cr_any hc pins s σ H _ us Q I r ⟨a, bs, rfl, sa, q.same le rfl⟩
    · cases hb
  · cases hb
end
end Bx

set_option Elab.async false
set_option linter.all false
set_option maxRecDepth 100000
set_option autoImplicit false
set_option maxHeartbeats 2000000
/-! Lists of values; what is frozen; isinstance; methods that change a list; what is walked. -/
namespace Bx
open PySem PySem.Spec PyProof.Rows L2

section
variable {K : PySem.W.Frag} {F H F1 H1 F2 H2 : Hp} {r r1 r2 : Env} {σ : SG}
def RpVL (K : PySem.W.Frag) (F H : Hp) (r : Env) (σ : SG) : List Sl → List V → Prop
  | [], vs => vs = []
  | w :: ws, vs => ∃ v t, vs = v :: t ∧ RpV K F H r σ w v ∧ RpVL K F H r σ ws t
def NwL (r : Env) (σ : SG) (H : Hp) : List Sl → List V → Prop
  | w :: ws, v :: vs => Nw r σ H w v ∧ NwL r σ H ws vs
  | _, _ => True
structure PeL (K : PySem.W.Frag) (F H : Hp) (r : Env) (σ : SG) (r' : Env) (ws : List Sl) (vs : List V) (F' H' : Hp) : Prop where
  fr : Fr (Own r σ) F H F' H'
  wd : Wd K F' H' r' σ
  sub : ∀ a, Own r' σ a → Own r σ a
  rp : RpVL K F' H' r' σ ws vs
  nw : NwL r σ H ws vs
theorem RpVL.go : ∀ {ws : List Sl} {vs : List V}, RpVL K F1 H1 r1 σ ws vs → Fr (Own r1 σ) F1 H1 F2 H2 → (∀ a, Own r2 σ a → Own r1 σ a) → RpVL K F2 H2 r2 σ ws vs
  | [], vs, q, f, s => q
  | w :: ws, vs, q, f, s => by
    unfold RpVL at q ⊢
    obtain ⟨v, t, e, a, b⟩ := q
    exact ⟨v, t, e, a.go f s, RpVL.go b f s⟩
theorem RpVL.len : ∀ {ws : List Sl} {vs : List V}, RpVL K F1 H1 r1 σ ws vs → ws.length = vs.length
  | [], vs, q => by unfold RpVL at q; subst q; rfl
  | w :: ws, vs, q => by
    unfold RpVL at q
    obtain ⟨v, t, rfl, a, b⟩ := q
    rw [List.length_cons, List.length_cons, RpVL.len b]
theorem seeL_ok (wd : Wd K F H r σ) : ∀ {ws : List Sl} {vs : List V} {ds : List PyData}, RpVL K F H r σ ws vs → seeL r ws = some ds → VwL K F H ds vs
  | [], vs, ds, q, e => by
    unfold RpVL at q
    subst q
    cases e
    simp [VwL]
  | w :: ws, vs, ds, q, e => by
    unfold RpVL at q
    obtain ⟨v, t, rfl, a, b⟩ := q
    unfold seeL at e
    split at e
    · rename_i d l h1 h2
      cases e
      unfold VwL
      exact ⟨v, t, rfl, see_ok wd a h1, seeL_ok wd b h2⟩
    · cases e
/-- the addresses of the values of one's own -/
def ownA : Sl → V → List Addr
  | .ow _, .ref a => [a]
  | _, _ => []
def ownL : List Sl → List V → List Addr
  | w :: ws, v :: vs => ownA w v ++ ownL ws vs
  | _, _ => []
theorem ownL_facts : ∀ {ws : List Sl} {vs : List V} {a : Addr} {rN : Env} {HN : Hp}, RpVL K F H r σ ws vs → NwL rN σ HN ws vs → a ∈ ownL ws vs → F a = none ∧ (∃ o, H a = some o) ∧ ¬ Own r σ a ∧ (HN a = none ∨ Own rN σ a)
  | [], vs, a, rN, HN, q, n, m => by simp [ownL] at m
  | w :: ws, vs, a, rN, HN, q, n, m => by
    unfold RpVL at q
    obtain ⟨v, t, rfl, qa, qb⟩ := q
    unfold NwL at n
    simp only [ownL, List.mem_append] at m
    rcases m with m | m
    · cases w with
      | ow d =>
        obtain ⟨b, rfl, o, no⟩ := qa
        simp only [ownA, List.mem_singleton] at m
        subst m
        exact ⟨o.1, o.some, no, n.1 a rfl⟩
      | _ => simp [ownA] at m
    · exact ownL_facts qb n.2 m
/-- what is to be frozen is frozen -/
theorem freeze {ws : List Sl} {vs : List V} {ds : List PyData} (p : PeL K F H r σ r1 ws vs F1 H1) (e : fzL ws = some ds) : ∃ F2, Fr (Own r σ) F H F2 H1 ∧ Wd K F2 H1 r1 σ ∧ RpA K F2 ds vs ∧ Same F1 F2 := by
  let F2 : Hp := fun b => if b ∈ ownL ws vs then H1 b else F1 b
  have hin : ∀ {b : Addr}, b ∈ ownL ws vs → F2 b = H1 b := fun hb => if_pos hb
  have hout : ∀ {b : Addr}, b ∉ ownL ws vs → F2 b = F1 b := fun hb => if_neg hb
  have s12 : Same F1 F2 := fun b o q => by
    by_cases hb : b ∈ ownL ws vs
    · have z := (ownL_facts p.rp p.nw hb).1
      rw [q] at z
      cases z
    · rw [hout hb]
      exact q
  have le2 : Same F2 H1 := fun b o q => by
    by_cases hb : b ∈ ownL ws vs
    · rw [hin hb] at q
      exact q
    · rw [hout hb] at q
      exact p.wd.le b o q
  refine ⟨F2, ⟨p.fr.ff.trans s12, fun b o q => ?_, p.fr.hh⟩, ⟨le2, p.wd.len, fun i w h => ?_, p.wd.inj⟩, ?_, s12⟩
  · by_cases hb : b ∈ ownL ws vs
    · obtain ⟨z1, _, _, z4⟩ := ownL_facts p.rp p.nw hb
      exact .inr ⟨p.fr.ff.free z1, z4.symm⟩
    · rw [hout hb] at q
      exact p.fr.new b o q
  · have q := p.wd.sl i w h
    cases w with
    | no => trivial
    | fr d => obtain ⟨v, e1, z⟩ := q; exact ⟨v, e1, Rp.mono s12 _ _ z⟩
    | ow d =>
      obtain ⟨a, e1, z⟩ := q
      refine ⟨a, e1, ?_, ?_⟩
      · rw [hout fun hb => (ownL_facts p.rp p.nw hb).2.2.1 ⟨i, d, h, e1⟩]
        exact z.1
      · obtain ⟨_, z⟩ := z
        cases d with
        | list xs => obtain ⟨vs, z1, z2⟩ := z; exact ⟨vs, z1, RpA.mono s12 _ _ z2⟩
        | dict xs => obtain ⟨vs, z1, z2⟩ := z; exact ⟨vs, z1, RpK.mono s12 _ _ z2⟩
        | _ => exact z.elim
    | lk i => exact q.elim
    | ln i => exact q.elim
  · have go : ∀ {us : List Sl} {xs : List V} {es : List PyData}, RpVL K F1 H1 r1 σ us xs → (∀ a ∈ ownL us xs, a ∈ ownL ws vs) → fzL us = some es → RpA K F2 es xs := by
      intro us
      induction us with
      | nil =>
        intro xs es q _ e
        unfold RpVL at q
        subst q
        cases e
        exact RpA.nil
      | cons w us ih =>
        intro xs es q m e
        unfold RpVL at q
        obtain ⟨v, t, rfl, qa, qb⟩ := q
        unfold fzL at e
        split at e
        · rename_i d l h1 h2
          cases e
          refine RpA.cons ?_ (ih qb (fun a ha => m a (List.mem_append_right _ ha)) h2)
          cases w with
          | fr x => cases h1; exact Rp.mono s12 _ _ qa
          | ow x =>
            have e2 : x = d := Option.some.inj h1
            subst e2
            obtain ⟨a, rfl, o, _⟩ := qa
            have ha : F2 a = H1 a := hin (m a (List.mem_append_left _ (by simp [ownA])))
            obtain ⟨_, o⟩ := o
            cases x with
            | list ys => obtain ⟨zs, z1, z2⟩ := o; exact ⟨a, zs, rfl, .inl (.inl (ha.trans z1)), RpA.mono s12 _ _ z2⟩
            | dict ys => obtain ⟨zs, z1, z2⟩ := o; exact ⟨a, zs, rfl, .inl (ha.trans z1), RpK.mono s12 _ _ z2⟩
            | _ => exact o.elim
          | _ => cases h1
        · cases e
    exact go p.rp (fun _ h => h) e
theorem PeL.of {w : Sl} {v : V} (p : Pe K F H r σ r1 w v F1 H1) : PeL K F H r σ r1 [w] [v] F1 H1 := ⟨p.fr, p.wd, p.sub, ⟨v, [], rfl, p.rp, rfl⟩, p.nw, trivial⟩
theorem freeze1 {w : Sl} {v : V} {d : PyData} (p : Pe K F H r σ r1 w v F1 H1) (e : fz w = some d) : ∃ F2, Fr (Own r σ) F H F2 H1 ∧ Wd K F2 H1 r1 σ ∧ Rp K F2 d v ∧ Same F1 F2 := by
  obtain ⟨F2, a, b, c, s⟩ := freeze (ds := [d]) (PeL.of p) (by unfold fzL; rw [e]; rfl)
  refine ⟨F2, a, b, ?_, s⟩
  unfold RpA at c
  obtain ⟨x, t, e1, c1, _⟩ := c
  cases e1
  exact c1
end

/-! ### isinstance -/
def tyN : Ty → String
  | .int => "int"
  | .bool => "bool"
  | .str => "str"
  | .list => "list"
  | .tuple => "tuple"
  | .dict => "dict"
def dtN : PyData → String
  | .none => "NoneType"
  | .bool _ => "bool"
  | .int _ => "int"
  | .str _ => "str"
  | .list _ => "list"
  | .tuple _ => "tuple"
  | .dict _ => "dict"
theorem rp_tyx {K : PySem.W.Frag} {H : Hp} {d : PyData} {v : V} (q : Rp K H d v) : TyX K H v (.type (dtN d)) := by
  cases d with
  | none => unfold Rp at q; subst q; exact .base .non
  | bool b => unfold Rp at q; subst q; exact .base (.bl b)
  | int i => unfold Rp at q; subst q; exact .base (.int i)
  | str x => unfold Rp at q; subst q; exact .base (.str x)
  | list xs =>
    unfold Rp at q
    obtain ⟨a, vs, rfl, s, _⟩ := q
    rcases s with (s | ⟨o, s⟩) | ⟨o, its, n, h1, h2, _⟩
    · exact .base (.lst s)
    · exact .base (.frz s)
    · exact .kList h1 h2
  | tuple xs =>
    unfold Rp at q
    obtain ⟨a, vs, rfl, s, _⟩ := q
    rcases s with (s | ⟨o, s⟩) | ⟨o, its, n, h1, h2, _⟩
    · exact .base (.tup s)
    · exact .fTuple s
    · exact .kTuple h1 h2
  | dict xs =>
    unfold Rp at q
    obtain ⟨a, vs, rfl, s, _⟩ := q
    rcases s with s | ⟨o, s⟩
    · exact .base (.dK s)
    · exact .fDict s
theorem kit_is (d : PyData) (t : Ty) : kitB (dtN d) (tyN t) = some (isTy d t) := by
  cases d <;> cases t <;> first | rfl | decide +kernel
theorem kit_any {K : PySem.W.Frag} (d : PyData) : ∀ ts : List Ty, PySem.W.kitAny K (.type (dtN d)) (ts.map fun t => Value.type (tyN t)) = some (ts.any (isTy d))
  | [] => rfl
  | t :: ts => by
    refine kitAny_cons (b := isTy d t) (kit_ty (kit_is d t)) (fun e => ?_) (fun e => ?_)
    · rw [List.any_cons, e, Bool.false_or]
      exact kit_any d ts
    · rw [List.any_cons, e, Bool.true_or]

/-! ### methods that change a list -/
def muId : Mu → String
  | .append => "list.append"
  | .extend => "list.extend"
  | .pop => "list.pop"
  | .insert => "list.insert"
  | .reverse => "list.reverse"
  | .clear => "list.clear"
/-- the arguments: frozen, or (extend) looked at -/
def MuArgs (K : PySem.W.Frag) (F H : Hp) (m : Mu) (ds : List PyData) (vs : List V) : Prop := match m with
  | .extend => VwL K F H ds vs
  | _ => RpA K F ds vs
def rMu (K : PySem.W.Frag) (m : Mu) : V → List V → Hp → VK → Prop := fun x vs H Q => ∃ F a xs ws ds y ys, x = .ref a ∧ Same F H ∧ H a = some (.lst ws) ∧ RpA K F xs ws ∧ MuArgs K F H m ds vs ∧ muD m xs ds = some (y, ys) ∧
  ∀ v us, Rp K F y v → RpA K F ys us → Q v (upd H a (.lst us))
section
variable {X : Cx}
theorem extend_meets (l : Addr) (items : Array Value) (n : Nat) (b : Addr) (items2 : Array Value) (n2 : Nat) (dd : Option Addr) (sl : Array (Option Value)) (hc0 : ¬(!items.isEmpty && Builtin.List.listTooLong (items.size + items2.size)) = true) (hc1 : items.size ≤ sizeLine) (hs2 : items.size + items2.size ≤ sizeLine + 1) :
    Meets (Builtin.«list.extend» ⟨[.ref l, .ref b], []⟩) (fun _ R s => s.heap.get? l = some { cls := .type "list", data := .seq items n } ∧ s.heap.get? b = some { cls := .type "list", dict := dd, data := .seq items2 n2, slots := sl } ∧
      R (.ok (.ret Value.none)) { s with heap := s.heap.update l (Obj.mapSeq fun x => x ++ items2) }) :=
  .of_wp fun prog w A R s h => by
    obtain ⟨hp, g, d, tk, os⟩ := s
    obtain ⟨hl, hb, h⟩ := h
    have f1 := AutoSeq1.idx_int
    have f2 := AutoSeq1.sub_tuple_tuple
    have f3 := AutoSeq1.sub_list_list
    have f4 := AutoSeq1.sub_tuple_list
    have f5 := AutoSeq1.sub_list_tuple
    have hz' : (items ++ items2).size ≤ sizeLine + 1 := by
      rw [Array.size_append]
      exact hs2
    wp_walk using (wpAny_updateSeq hl rfl (hz := hc1) (_hz' := hz')), AutoSeq1.wpAny_loadPart' hl, AutoSeq1.wpAny_loadPart' hb
    exact ⟨_, rfl, h⟩
theorem mt_mu (m : Mu) : MtR X (muId m) (rMu X.K m) := by
  intro pins s σ H x vs v us Q I rx rv h
  obtain ⟨F, a, xs, ws, ds, y, ys, rfl, le, ha, rxs, ags, hm, q⟩ := h
  have lx := rxs.len
  unfold muD at hm
  split at hm
  · rename_i z
    split at hm
    · cases hm
      rename_i hz
      obtain ⟨w, t, rfl, r1, r2⟩ := (show ∃ w t, vs = w :: t ∧ Rp X.K F z w ∧ RpA X.K F [] t from ags)
      obtain rfl : t = [] := r2
      exact mt_append pins s σ H _ _ v us Q I rx rv ⟨a, ws, w, rfl, rfl, ha, by rw [← lx, ← SZ_eq]; exact hz, q _ _ rfl (rxs.app (RpA.cons r1 RpA.nil))⟩
    · cases hm
  · rename_i zs
    split at hm
    · cases hm
      rename_i hz
      obtain ⟨w, rfl, r1⟩ := VwL.one (show VwL X.K F H [.list zs] vs from ags)
      obtain ⟨b, bs, rfl, sb, rb⟩ := r1.lst le
      have lz := rb.len
      cases rx
      obtain ⟨u, rfl, ru⟩ := rv.one
      cases ru
      obtain ⟨z, its, n, r, hl, e⟩ := I.lstM ha
      obtain ⟨is2, r2, p2, z2⟩ := I.list sb
      obtain ⟨⟨c2, d2, da2, s2⟩, h2, hc2, n2, hd2⟩ := p2.isList
      simp only at hc2 hd2
      subst hc2 hd2
      have l2 := r2.length
      have hsz : its.toArray.size + is2.toArray.size ≤ sizeLine := by
        rw [List.size_toArray, List.size_toArray, ← SZ_eq]
        omega
      have hlong : ¬ (!its.toArray.isEmpty && Builtin.List.listTooLong (its.toArray.size + is2.toArray.size)) = true := by
        rw [notLongL hsz, Bool.and_false]
        exact Bool.false_ne_true
      refine call_meets PySem.F.slot_list_extend ⟨_, e, rfl⟩ PySem.F.entry_list_extend (PySem.F.args_list_extend_2 _ _)
        (extend_meets a its.toArray n b is2.toArray n2 d2 s2 hlong (by rw [List.size_toArray]; omega) (by omega)) ⟨e, h2, ?_⟩
      refine ⟨.non, _, I.lset (its' := its ++ is2) ha e (by simp) (r.append r2) ?_, rfl, q _ _ rfl (rxs.app rb)⟩
      rw [List.length_append, ← SZ_eq]
      omega
    · cases hm
  · split at hm
    · cases hm
      rename_i hy
      obtain rfl : vs = [] := ags
      obtain ⟨w, h1, h2⟩ := rxs.at hy
      rw [lx] at h1
      exact mt_pop pins s σ H _ _ v us Q I rx rv ⟨a, ws, w, rfl, rfl, ha, h1, q _ _ h2 rxs.dropLast⟩
    · cases hm
  · cases hm
    obtain rfl : vs = [] := ags
    exact mt_reverse pins s σ H _ _ v us Q I rx rv ⟨a, ws, rfl, rfl, ha, q _ _ rfl rxs.rev⟩
  · cases hm
    obtain rfl : vs = [] := ags
    exact mt_clear pins s σ H _ _ v us Q I rx rv ⟨a, ws, rfl, rfl, ha, q _ _ rfl RpA.nil⟩
  · cases hm
end
end Bx

set_option Elab.async false
set_option linter.all false
set_option maxRecDepth 100000
set_option autoImplicit false
set_option maxHeartbeats 2000000
/-! Calls: what a def promises, what a call does to the caller's slots. -/
namespace Bx
open PySem PySem.Spec PyProof.Rows L2

/-- a def's promise, no exception leaves it, no repr under way -/
structure FnG (P : Program) (w : World) (K : PySem.W.Frag) (mg : Str → Option Value) (base : Heap) (k : Nat) (f : Addr) (fd : FuncData) (ps : List Str) (sp : List V → Hp → VK → Prop) : Prop where
  len : ∀ vs H Q, sp vs H Q → vs.length = ps.length
  run : ∀ (A : Around) (outer : List PySem.Env) (s : Shared) (H : Hp) (args : Args) (us : List Value) (vs : List V) (Q : VK), Room k A → A.guards = some [] → Env0 P w K mg base A outer s H → BindsTo s fd args (ps.zip us) → Vals vs us → sp vs H Q →
    codeAny (model P w) A (.call (.ref f) args) (CR CX0 outer P w H s Q E0) s
/-- what the evaluator's run of a def promises -/
def spF (C : Call) (K : PySem.W.Frag) (f : Nat) : List V → Hp → VK → Prop := fun vs H Q =>
  ∃ F ws w fs, Wd K F H ws (vs.map some) ∧ C f ws = some (w, fs) ∧ ∀ v F' H', Pe K F H ws (vs.map some) fs w v F' H' → Q v H'

/-! ### lists by place -/
section
variable {K : PySem.W.Frag} {F H F1 H1 F2 H2 : Hp} {r r1 r2 : Env} {σ : SG}
theorem RpVL.at : ∀ {ws : List Sl} {vs : List V} {j : Nat} {w : Sl}, RpVL K F H r σ ws vs → ws[j]? = some w → ∃ v, vs[j]? = some v ∧ RpV K F H r σ w v
  | [], vs, j, w, q, e => by simp at e
  | x :: ws, vs, 0, w, q, e => by
    unfold RpVL at q
    obtain ⟨v, t, rfl, a, b⟩ := q
    simp at e
    subst e
    exact ⟨v, rfl, a⟩
  | x :: ws, vs, j + 1, w, q, e => by
    unfold RpVL at q
    obtain ⟨v, t, rfl, a, b⟩ := q
    obtain ⟨u, h1, h2⟩ := RpVL.at (j := j) b (by simpa using e)
    exact ⟨u, by simpa using h1, h2⟩
theorem ownL_at : ∀ {ws : List Sl} {vs : List V} {j : Nat} {d : PyData} {a : Addr}, ws[j]? = some (Sl.ow d) → vs[j]? = some (V.ref a) → a ∈ ownL ws vs
  | [], vs, j, d, a, e, e2 => by simp at e
  | x :: ws, [], j, d, a, e, e2 => by simp at e2
  | x :: ws, v :: vs, 0, d, a, e, e2 => by
    simp at e e2
    subst e e2
    simp [ownL, ownA]
  | x :: ws, v :: vs, j + 1, d, a, e, e2 => by
    simp only [ownL, List.mem_append]
    exact .inr (ownL_at (j := j) (d := d) (by simpa using e) (by simpa using e2))
theorem argsOf_at : ∀ {ws as : List Sl} {j : Nat} {x : Sl}, argsOf r ws = some as → as[j]? = some x → ∃ w, ws[j]? = some w ∧ argOf r w = some x
  | [], as, j, x, e, e2 => by
    cases e
    simp at e2
  | w :: ws, as, j, x, e, e2 => by
    unfold argsOf at e
    split at e
    · rename_i a l h1 h2
      cases e
      cases j with
      | zero =>
        simp at e2
        subst e2
        exact ⟨w, rfl, h1⟩
      | succ j =>
        obtain ⟨u, h3, h4⟩ := argsOf_at (j := j) h2 (by simpa using e2)
        exact ⟨u, by simpa using h3, h4⟩
    · cases e
theorem argsOf_len : ∀ {ws as : List Sl}, argsOf r ws = some as → as.length = ws.length
  | [], as, e => by cases e; rfl
  | w :: ws, as, e => by
    unfold argsOf at e
    split at e
    · rename_i a l h1 h2
      cases e
      rw [List.length_cons, List.length_cons, argsOf_len h2]
    · cases e
theorem mem_lents : ∀ {ws : List Sl} {j i : Nat}, ws[j]? = some (Sl.ln i) → i ∈ lents ws
  | [], j, i, e => by simp at e
  | w :: ws, 0, i, e => by
    simp at e
    subst e
    simp [lents]
  | w :: ws, j + 1, i, e => by
    have z := mem_lents (ws := ws) (j := j) (i := i) (by simpa using e)
    cases w <;> simp [lents, z]
theorem mem_ownLk : ∀ {ws : List Sl} {j i : Nat} {d : PyData}, ws[j]? = some (Sl.lk i) → r[i]? = some (Sl.ow d) → i ∈ ownLk r ws
  | [], j, i, d, e, e2 => by simp at e
  | w :: ws, 0, i, d, e, e2 => by
    simp at e
    subst e
    simp [ownLk, e2]
  | w :: ws, j + 1, i, d, e, e2 => by
    have z := mem_ownLk (ws := ws) (j := j) (i := i) (by simpa using e) e2
    cases w with
    | lk k =>
      simp only [ownLk]
      split <;> simp [z]
    | _ => simpa [ownLk] using z
theorem of_ownLk : ∀ {ws : List Sl} {i : Nat}, i ∈ ownLk r ws → ∃ d, r[i]? = some (Sl.ow d)
  | [], i, h => by simp [ownLk] at h
  | w :: ws, i, h => by
    cases w with
    | lk k =>
      simp only [ownLk] at h
      split at h
      · rename_i d e
        rcases List.mem_cons.mp h with rfl | h
        · exact ⟨d, e⟩
        · exact of_ownLk h
      · exact of_ownLk h
    | _ => exact of_ownLk (by simpa [ownLk] using h)
theorem nodup_of : ∀ {l : List Nat}, nodupB l = true → l.Nodup
  | [], _ => List.nodup_nil
  | i :: l, h => by
    simp only [nodupB, Bool.and_eq_true, Bool.not_eq_true', List.contains_eq_mem, decide_eq_false_iff_not] at h
    exact List.nodup_cons.mpr ⟨h.1, nodup_of h.2⟩
theorem lents_inj : ∀ {ws : List Sl} {j j' i : Nat}, (lents ws).Nodup → ws[j]? = some (Sl.ln i) → ws[j']? = some (Sl.ln i) → j = j'
  | [], j, j', i, _, e, _ => by simp at e
  | w :: ws, 0, 0, i, _, _, _ => rfl
  | w :: ws, 0, j' + 1, i, n, e, e2 => by
    simp at e
    subst e
    simp only [lents, List.nodup_cons] at n
    exact absurd (mem_lents (j := j') (by simpa using e2)) n.1
  | w :: ws, j + 1, 0, i, n, e, e2 => by
    simp at e2
    subst e2
    simp only [lents, List.nodup_cons] at n
    exact absurd (mem_lents (j := j) (by simpa using e)) n.1
  | w :: ws, j + 1, j' + 1, i, n, e, e2 => by
    have n' : (lents ws).Nodup := by
      cases w with
      | ln k => simp only [lents, List.nodup_cons] at n; exact n.2
      | _ => simpa [lents] using n
    rw [lents_inj (ws := ws) (j := j) (j' := j') (i := i) n' (by simpa using e) (by simpa using e2)]
theorem giveBack_out : ∀ {ws fs : List Sl} {r : Env} {i : Nat}, i ∉ lents ws → (giveBack r ws fs)[i]? = r[i]?
  | [], fs, r, i, h => by cases fs <;> rfl
  | w :: ws, [], r, i, h => by cases w <;> rfl
  | w :: ws, f :: fs, r, i, h => by
    cases w with
    | ln k =>
      simp only [lents, List.mem_cons, not_or] at h
      show (giveBack (r.set k f) ws fs)[i]? = r[i]?
      rw [giveBack_out h.2, List.getElem?_set_ne (fun e => h.1 e.symm)]
    | no => exact giveBack_out (ws := ws) (fs := fs) (r := r) (by simpa [lents] using h)
    | fr d => exact giveBack_out (ws := ws) (fs := fs) (r := r) (by simpa [lents] using h)
    | ow d => exact giveBack_out (ws := ws) (fs := fs) (r := r) (by simpa [lents] using h)
    | lk d => exact giveBack_out (ws := ws) (fs := fs) (r := r) (by simpa [lents] using h)
theorem giveBack_in : ∀ {ws fs : List Sl} {r : Env} {i j : Nat} {f : Sl}, (lents ws).Nodup → ws[j]? = some (Sl.ln i) → fs[j]? = some f → i < r.length → (giveBack r ws fs)[i]? = some f
  | [], fs, r, i, j, f, n, e, e2, h => by simp at e
  | w :: ws, [], r, i, j, f, n, e, e2, h => by simp at e2
  | w :: ws, g :: fs, r, i, 0, f, n, e, e2, h => by
    simp at e e2
    subst e e2
    simp only [lents, List.nodup_cons] at n
    show (giveBack (r.set i g) ws fs)[i]? = some g
    rw [giveBack_out n.1, List.getElem?_set_self h]
  | w :: ws, g :: fs, r, i, j + 1, f, n, e, e2, h => by
    have e' : ws[j]? = some (Sl.ln i) := by simpa using e
    have e2' : fs[j]? = some f := by simpa using e2
    cases w with
    | ln k =>
      simp only [lents, List.nodup_cons] at n
      exact giveBack_in (r := r.set k g) n.2 e' e2' (by simpa using h)
    | no => exact giveBack_in (ws := ws) (fs := fs) (r := r) (by simpa [lents] using n) e' e2' h
    | fr d => exact giveBack_in (ws := ws) (fs := fs) (r := r) (by simpa [lents] using n) e' e2' h
    | ow d => exact giveBack_in (ws := ws) (fs := fs) (r := r) (by simpa [lents] using n) e' e2' h
    | lk d => exact giveBack_in (ws := ws) (fs := fs) (r := r) (by simpa [lents] using n) e' e2' h
theorem giveBack_len : ∀ {ws fs : List Sl} {r : Env}, (giveBack r ws fs).length = r.length
  | [], fs, r => by cases fs <;> rfl
  | w :: ws, [], r => by cases w <;> rfl
  | w :: ws, f :: fs, r => by
    cases w with
    | ln k =>
      show (giveBack (r.set k f) ws fs).length = r.length
      rw [giveBack_len, List.length_set]
    | no => exact giveBack_len (ws := ws) (fs := fs) (r := r)
    | fr d => exact giveBack_len (ws := ws) (fs := fs) (r := r)
    | ow d => exact giveBack_len (ws := ws) (fs := fs) (r := r)
    | lk d => exact giveBack_len (ws := ws) (fs := fs) (r := r)
theorem of_lents : ∀ {ws : List Sl} {i : Nat}, i ∈ lents ws → ∃ j : Nat, ws[j]? = some (Sl.ln i)
  | [], i, h => by simp [lents] at h
  | w :: ws, i, h => by
    cases w with
    | ln k =>
      simp only [lents, List.mem_cons] at h
      rcases h with rfl | h
      · exact ⟨0, rfl⟩
      · obtain ⟨j, e⟩ := of_lents h
        exact ⟨j + 1, by simpa using e⟩
    | _ =>
      obtain ⟨j, e⟩ := of_lents (ws := ws) (i := i) (by simpa [lents] using h)
      exact ⟨j + 1, by simpa using e⟩
theorem freezeAt_len : ∀ {l : List Nat} {r : Env}, (freezeAt r l).length = r.length
  | [], r => rfl
  | i :: l, r => by
    unfold freezeAt
    split
    · rw [freezeAt_len, List.length_set]
    · exact freezeAt_len
theorem freezeAt_at : ∀ {l : List Nat} {r : Env} {i : Nat} {w : Sl}, (freezeAt r l)[i]? = some w → (r[i]? = some w ∧ ∀ d, w = .ow d → i ∉ l) ∨ (∃ d, r[i]? = some (Sl.ow d) ∧ w = .fr d)
  | [], r, i, w, h => .inl ⟨h, fun _ _ => by simp⟩
  | k :: l, r, i, w, h => by
    unfold freezeAt at h
    split at h
    · rename_i d e
      rcases freezeAt_at h with ⟨h1, h2⟩ | ⟨d', h1, h2⟩
      · by_cases hk : k = i
        · subst hk
          rw [List.getElem?_set_self (List.getElem?_eq_some_iff.mp e).1] at h1
          cases h1
          exact .inr ⟨d, e, rfl⟩
        · rw [List.getElem?_set_ne hk] at h1
          exact .inl ⟨h1, fun d' e' => by simp only [List.mem_cons, not_or]; exact ⟨fun q => hk q.symm, h2 d' e'⟩⟩
      · by_cases hk : k = i
        · subst hk
          rw [List.getElem?_set_self (List.getElem?_eq_some_iff.mp e).1] at h1
          cases h1
        · rw [List.getElem?_set_ne hk] at h1
          exact .inr ⟨d', h1, h2⟩
    · rename_i e
      rcases freezeAt_at h with ⟨h1, h2⟩ | ⟨d', h1, h2⟩
      · refine .inl ⟨h1, fun d' e' => ?_⟩
        simp only [List.mem_cons, not_or]
        refine ⟨fun q => ?_, h2 d' e'⟩
        subst q
        subst e'
        exact e _ h1
      · exact .inr ⟨d', h1, h2⟩
theorem flatW_ow {d : PyData} (h : flatW (.ow d) = true) : ∃ xs, d = .list xs ∧ flatAll xs = true := by
  cases d with
  | list xs => exact ⟨xs, rfl, h⟩
  | _ => cases h

/-- the call of a def, from its promise -/
theorem call_ok {C : Call} {f : Nat} {ws : List Sl} {vs : List V} {w : Sl} {Q : VK} (p : PeL K F H r σ r1 ws vs F1 H1) (e : callE C f ws r1 = some (w, r2)) (q : ∀ v F' H', Pe K F H r σ r2 w v F' H' → Q v H') : spF C K f vs H1 Q := by
  classical
  unfold callE at e
  split at e
  · cases e
  rename_i as has
  split at e
  case isFalse => cases e
  rename_i hc
  simp only [Bool.and_eq_true, List.all_eq_true, Bool.not_eq_true', List.contains_eq_mem, decide_eq_false_iff_not] at hc
  obtain ⟨hnd, hdis⟩ := hc
  have hnd := nodup_of hnd
  split at e
  · cases e
  rename_i w' fs hC
  split at e
  case isFalse => cases e
  rename_i hlen
  simp only [Bool.and_eq_true, decide_eq_true_eq] at hlen
  obtain ⟨hiv, hlen⟩ := hlen
  have lenA := argsOf_len has
  have lenV := p.rp.len
  -- what is borrowed
  let B : Addr → Prop := fun a => ∃ i ∈ ownLk r1 ws, σ[i]? = some (some (V.ref a))
  have Bown : ∀ {a : Addr}, B a → Own r1 σ a := fun ⟨i, hi, hs⟩ => by
    obtain ⟨d, hd⟩ := of_ownLk hi
    exact ⟨i, d, hd, hs⟩
  let T : Addr → Prop := fun a => a ∈ ownL ws vs
  have Tfacts : ∀ {a : Addr}, T a → F1 a = none ∧ (∃ o, H1 a = some o) ∧ ¬ Own r1 σ a ∧ (H a = none ∨ Own r σ a) := fun h => ownL_facts p.rp p.nw h
  let Fp : Hp := fun a => if T a ∨ B a then H1 a else F1 a
  have hin : ∀ {a : Addr}, T a ∨ B a → Fp a = H1 a := fun h => if_pos h
  have hout : ∀ {a : Addr}, ¬ (T a ∨ B a) → Fp a = F1 a := fun h => if_neg h
  have F1none : ∀ {a : Addr}, T a ∨ B a → F1 a = none := fun h => by
    rcases h with h | h
    · exact (Tfacts h).1
    · exact (p.wd.own (Bown h)).1
  have s1p : Same F1 Fp := fun a o z => by
    by_cases h : T a ∨ B a
    · rw [F1none h] at z; cases z
    · rw [hout h]; exact z
  have lep : Same Fp H1 := fun a o z => by
    by_cases h : T a ∨ B a
    · rw [hin h] at z; exact z
    · rw [hout h] at z; exact p.wd.le a o z
  -- an owned thing, frozen
  have frz_own : ∀ {d : PyData} {a : Addr}, OwnAt K F1 H1 d a → (T a ∨ B a) → Rp K Fp d (.ref a) := fun {d a} o h => by
    obtain ⟨_, o⟩ := o
    cases d with
    | list ys => obtain ⟨zs, z1, z2⟩ := o; exact ⟨a, zs, rfl, .inl (.inl ((hin h).trans z1)), RpA.mono s1p _ _ z2⟩
    | dict ys => obtain ⟨zs, z1, z2⟩ := o; exact ⟨a, zs, rfl, .inl ((hin h).trans z1), RpK.mono s1p _ _ z2⟩
    | _ => exact o.elim
  have own_p : ∀ {d : PyData} {a : Addr}, OwnAt K F1 H1 d a → ¬ (T a ∨ B a) → OwnAt K Fp H1 d a := fun {d a} o h => by
    refine ⟨(hout h).trans o.1, ?_⟩
    obtain ⟨_, o⟩ := o
    cases d with
    | list ys => obtain ⟨zs, z1, z2⟩ := o; exact ⟨zs, z1, RpA.mono s1p _ _ z2⟩
    | dict ys => obtain ⟨zs, z1, z2⟩ := o; exact ⟨zs, z1, RpK.mono s1p _ _ z2⟩
    | _ => exact o.elim
  have notT : ∀ {a : Addr}, Own r1 σ a → ¬ T a := fun h t => (Tfacts t).2.2.1 h
  have notB : ∀ {i : Nat} {d : PyData} {a : Addr}, r1[i]? = some (Sl.ow d) → σ[i]? = some (some (V.ref a)) → i ∉ ownLk r1 ws → ¬ B a := fun {i d a} h1 h2 h3 ⟨k, hk, hs⟩ => by
    obtain ⟨d', hd⟩ := of_ownLk hk
    exact h3 (p.wd.inj i k d d' a h1 hd h2 hs ▸ hk)
  -- the callee's slots
  have argAt : ∀ {j : Nat} {x : Sl}, as[j]? = some x → ∃ u v, ws[j]? = some u ∧ argOf r1 u = some x ∧ vs[j]? = some v ∧ RpV K F1 H1 r1 σ u v := fun {j x} h => by
    obtain ⟨u, h1, h2⟩ := argsOf_at has h
    obtain ⟨v, h3, h4⟩ := p.rp.at h1
    exact ⟨u, v, h1, h2, h3, h4⟩
  have lentAt : ∀ {j : Nat} {d : PyData}, as[j]? = some (Sl.ow d) → ∃ i a, ws[j]? = some (Sl.ln i) ∧ r1[i]? = some (Sl.ow d) ∧ vs[j]? = some (V.ref a) ∧ σ[i]? = some (some (V.ref a)) ∧ OwnAt K F1 H1 d a ∧ i ∉ ownLk r1 ws := fun {j d} h => by
    obtain ⟨u, v, h1, h2, h3, h4⟩ := argAt h
    cases u with
    | no => cases h2
    | fr x => cases h2
    | ow x => cases h2
    | lk i =>
      simp only [argOf] at h2
      split at h2 <;> cases h2
    | ln i =>
      simp only [argOf] at h2
      split at h2
      · rename_i x hx
        cases h2
        obtain ⟨a, ha, o⟩ := p.wd.sl i _ hx
        have hv : σ[i]? = some (some v) := h4
        rw [hv] at ha
        cases ha
        refine ⟨i, a, h1, hx, h3, hv, o, fun hk => ?_⟩
        exact hdis i hk (mem_lents h1)
      · cases h2
  have wdC : Wd K Fp H1 as (vs.map some) := by
    refine ⟨lep, by rw [lenA, lenV, List.length_map], fun j x hx => ?_, fun j j' d d' a hj hj' hs hs' => ?_⟩
    · obtain ⟨u, v, h1, h2, h3, h4⟩ := argAt hx
      have hv : (vs.map some)[j]? = some (some v) := by rw [List.getElem?_map, h3]; rfl
      cases x with
      | no => trivial
      | fr d =>
        refine ⟨v, hv, ?_⟩
        cases u with
        | no => cases h2
        | fr y => cases h2; exact Rp.mono s1p _ _ h4
        | ow y =>
          cases h2
          obtain ⟨a, rfl, o, no⟩ := h4
          exact frz_own o (.inl (ownL_at h1 h3))
        | lk i =>
          have hs : σ[i]? = some (some v) := h4
          simp only [argOf] at h2
          split at h2
          · rename_i y hy
            cases h2
            obtain ⟨v', e1, z⟩ := p.wd.sl i _ hy
            rw [hs] at e1
            cases e1
            exact Rp.mono s1p _ _ z
          · rename_i y hy
            cases h2
            obtain ⟨a, e1, z⟩ := p.wd.sl i _ hy
            rw [hs] at e1
            cases e1
            exact frz_own z (.inr ⟨i, mem_ownLk h1 hy, hs⟩)
          · cases h2
        | ln i =>
          simp only [argOf] at h2
          split at h2 <;> cases h2
      | ow d =>
        obtain ⟨i, a, g1, g2, g3, g4, g5, g6⟩ := lentAt hx
        rw [h3] at g3
        cases g3
        refine ⟨a, hv, own_p g5 ?_⟩
        rintro (t | b)
        · exact notT ⟨i, d, g2, g4⟩ t
        · exact notB g2 g4 g6 b
      | lk i => 
        exfalso
        cases u <;> simp only [argOf] at h2 <;> first | cases h2 | (split at h2 <;> cases h2)
      | ln i =>
        exfalso
        cases u <;> simp only [argOf] at h2 <;> first | cases h2 | (split at h2 <;> cases h2)
    · obtain ⟨i, b, g1, g2, g3, g4, g5, g6⟩ := lentAt hj
      obtain ⟨i', b', k1, k2, k3, k4, k5, k6⟩ := lentAt hj'
      rw [List.getElem?_map, g3] at hs
      rw [List.getElem?_map, k3] at hs'
      cases hs
      cases hs'
      have ei := p.wd.inj i i' d d' a g2 k2 g4 k4
      subst ei
      exact lents_inj hnd g1 k1
  have ownC : ∀ {a : Addr}, Own as (vs.map some) a → ∃ j i d, as[j]? = some (Sl.ow d) ∧ ws[j]? = some (Sl.ln i) ∧ r1[i]? = some (Sl.ow d) ∧ σ[i]? = some (some (V.ref a)) ∧ i ∉ ownLk r1 ws := fun {a} ⟨j, d, h1, h2⟩ => by
    obtain ⟨i, b, g1, g2, g3, g4, g5, g6⟩ := lentAt h1
    rw [List.getElem?_map, g3] at h2
    cases h2
    exact ⟨j, i, d, h1, g1, g2, g4, g6⟩
  have ownC1 : ∀ {a : Addr}, Own as (vs.map some) a → Own r1 σ a := fun h => by
    obtain ⟨j, i, d, _, _, h1, h2, _⟩ := ownC h
    exact ⟨i, d, h1, h2⟩
  refine ⟨Fp, as, w', fs, wdC, hC, fun v F' H' pc => ?_⟩
  have frc := pc.fr
  have wdc := pc.wd
  -- from the arguments' state to the end, the borrowed things frozen too
  have fr1 : Fr (fun a => Own r1 σ a ∨ T a) F1 H1 F' H' := by
    refine ⟨s1p.trans frc.ff, fun a o z => ?_, fun a o z n => frc.hh a o z fun k => n (.inl (ownC1 k))⟩
    rcases frc.new a o z with z | ⟨z, k⟩
    · by_cases h : T a ∨ B a
      · exact .inr ⟨F1none h, .inl (h.elim .inr fun b => .inl (Bown b))⟩
      · rw [hout h] at z; exact .inl z
    · refine .inr ⟨s1p.free z, ?_⟩
      rcases k with k | k
      · exact .inl (.inl (ownC1 k))
      · exact .inr k
  have frT : ∀ {F3 : Hp}, Fr (fun a => Own r1 σ a ∨ T a) F1 H1 F3 H' → Fr (Own r σ) F H F3 H' := fun z => p.fr.trans z fun a k => by
    rcases k with k | k
    · exact .inl (p.sub a k)
    · exact ((Tfacts k).2.2.2).symm
  -- the callee's result leans on no address of the caller's other slots
  have lentBack : ∀ {i : Nat} {d : PyData}, r1[i]? = some (Sl.ow d) → i ∈ lents ws → ∃ j f a, ws[j]? = some (Sl.ln i) ∧ fs[j]? = some f ∧ vs[j]? = some (V.ref a) ∧ σ[i]? = some (some (V.ref a)) := fun {i d} hd hi => by
    obtain ⟨j, hj⟩ := of_lents hi
    have hjl : j < ws.length := (List.getElem?_eq_some_iff.mp hj).1
    obtain ⟨v, h1, h2⟩ := p.rp.at hj
    obtain ⟨a, ha, _⟩ := p.wd.sl i _ hd
    have hv : σ[i]? = some (some v) := h2
    rw [hv] at ha
    cases ha
    exact ⟨j, fs[j]'(by omega), a, hj, List.getElem?_eq_getElem (by omega), h1, hv⟩
  have lentR : ∀ {i : Nat}, i ∈ lents ws → i < r1.length := fun {i} hi => by
    obtain ⟨j, hj⟩ := of_lents hi
    have hjl : j < ws.length := (List.getElem?_eq_some_iff.mp hj).1
    have hja : j < as.length := by omega
    obtain ⟨u, v, h1, h2, h3, h4⟩ := argAt (List.getElem?_eq_getElem hja)
    rw [hj] at h1
    cases h1
    simp only [argOf] at h2
    split at h2
    · rename_i d hd
      exact (List.getElem?_eq_some_iff.mp hd).1
    · cases h2
  have resNew : ∀ {d : PyData} {a : Addr}, w' = .ow d → v = .ref a → (H a = none ∨ Own r σ a) ∧ ¬ Own fs (vs.map some) a := fun {d a} ew ev => by
    have h1 := pc.rp
    have h2 := pc.nw
    subst ew
    subst ev
    obtain ⟨b, eb, o, no⟩ := h1
    cases eb
    refine ⟨?_, no⟩
    rcases h2 a rfl with k | k
    · by_cases h : Own r σ a
      · exact .inr h
      · left
        cases z : H a with
        | none => rfl
        | some u => rw [p.fr.hh a u z h] at k; cases k
    · exact .inr (p.sub a (ownC1 k))
  split at e
  · -- flat: the borrowed things are given back
    rename_i hf
    cases e
    simp only [Bool.and_eq_true, List.all_eq_true] at hf
    obtain ⟨hfw, hff⟩ := hf
    let F3 : Hp := fun a => if B a then none else F' a
    have h3in : ∀ {a : Addr}, B a → F3 a = none := fun h => if_pos h
    have h3out : ∀ {a : Addr}, ¬ B a → F3 a = F' a := fun h => if_neg h
    have s3 : ∀ {a : Addr} {o : HO}, F3 a = some o → F' a = some o := fun {a o} z => by
      by_cases h : B a
      · rw [h3in h] at z; cases z
      · rw [h3out h] at z; exact z
    have s13 : Same F1 F3 := fun a o z => by
      have : ¬ B a := fun h => by rw [F1none (.inr h)] at z; cases z
      rw [h3out this]
      exact fr1.ff a o z
    have le3 : Same F3 H' := fun a o z => wdc.le a o (s3 z)
    have fr3 : Fr (fun a => Own r1 σ a ∨ T a) F1 H1 F3 H' := ⟨s13, fun a o z => fr1.new a o (s3 z), fr1.hh⟩
    -- tuples stay
    have tupStay : ∀ a xs, SqT K F' a xs → SqT K F3 a xs := fun a xs z => by
      have nb : ∀ {o : HO}, F' a = some o → (∀ ys, o ≠ .lst ys) → (∀ ys, o ≠ .dK ys) → ¬ B a := fun {o} z hn hd hb => by
        obtain ⟨i, hi, hs⟩ := hb
        obtain ⟨d, hd2⟩ := of_ownLk hi
        obtain ⟨b, eb, o2⟩ := p.wd.sl i _ hd2
        rw [hs] at eb
        cases eb
        have k1 : Fp a = H1 a := hin (.inr ⟨i, hi, hs⟩)
        obtain ⟨_, o2⟩ := o2
        cases d with
        | list ys =>
          obtain ⟨zs, z1, _⟩ := o2
          rw [z1] at k1
          rw [frc.ff a _ k1] at z
          cases z
          exact hn _ rfl
        | dict ys =>
          obtain ⟨zs, z1, _⟩ := o2
          rw [z1] at k1
          rw [frc.ff a _ k1] at z
          cases z
          exact hd _ rfl
        | _ => exact o2.elim
      rcases z with (z | ⟨o, z⟩) | z
      · exact .inl (.inl ((h3out (nb z (fun _ => nofun) (fun _ => nofun))).trans z))
      · exact .inl (.inr ⟨o, (h3out (nb z (fun _ => nofun) (fun _ => nofun))).trans z⟩)
      · exact .inr z
    have flatOwn : ∀ {d : PyData} {a : Addr}, flatW (.ow d) = true → OwnAt K F' H' d a → ¬ B a → OwnAt K F3 H' d a := fun {d a} hd o nb => by
      obtain ⟨xs, rfl, hx⟩ := flatW_ow hd
      obtain ⟨o1, vs', o2, o3⟩ := o
      exact ⟨(h3out nb).trans o1, vs', o2, RpA.flatTo tupStay _ _ hx o3⟩
    -- the slots behind
    have slot : ∀ {i : Nat} {x : Sl}, (giveBack r1 ws fs)[i]? = some x → (i ∉ lents ws ∧ r1[i]? = some x) ∨ (i ∈ lents ws ∧ ∃ j, ws[j]? = some (Sl.ln i) ∧ fs[j]? = some x) := fun {i x} h => by
      by_cases hi : i ∈ lents ws
      · obtain ⟨j, hj⟩ := of_lents hi
        have hjl : j < fs.length := by have := (List.getElem?_eq_some_iff.mp hj).1; omega
        rw [giveBack_in hnd hj (List.getElem?_eq_getElem hjl) (lentR hi)] at h
        cases h
        exact .inr ⟨hi, j, hj, List.getElem?_eq_getElem hjl⟩
      · rw [giveBack_out hi] at h
        exact .inl ⟨hi, h⟩
    have lentσ : ∀ {i j : Nat} {x : Sl}, ws[j]? = some (Sl.ln i) → fs[j]? = some x → ∃ u, vs[j]? = some u ∧ (vs.map some)[j]? = some (some u) ∧ σ[i]? = some (some u) := fun {i j x} h1 h2 => by
      obtain ⟨u, k1, k2⟩ := p.rp.at h1
      exact ⟨u, k1, by rw [List.getElem?_map, k1]; rfl, k2⟩
    have backOwn : ∀ {a : Addr}, Own (giveBack r1 ws fs) σ a → Own r1 σ a := fun {a} ⟨i, d, h1, h2⟩ => by
      rcases slot h1 with ⟨_, h⟩ | ⟨hi, j, hj, hfj⟩
      · exact ⟨i, d, h, h2⟩
      · obtain ⟨u, k1, k2, k3⟩ := lentσ hj hfj
        rw [h2] at k3
        cases k3
        exact ownC1 (pc.sub a ⟨j, d, hfj, k2⟩)
    have own_keep : ∀ {i : Nat} {d : PyData} {a : Addr}, i ∉ lents ws → r1[i]? = some (Sl.ow d) → σ[i]? = some (some (V.ref a)) → ¬ Own as (vs.map some) a := fun {i d a} hi h1 h2 k => by
      obtain ⟨j, i', d', _, g1, g2, g3, _⟩ := ownC k
      have := p.wd.inj i i' d d' a h1 g2 h2 g3
      subst this
      exact hi (mem_lents g1)
    have wd3 : Wd K F3 H' (giveBack r1 ws fs) σ := by
      refine ⟨le3, by rw [giveBack_len]; exact p.wd.len, fun i x hx => ?_, fun i i' d d' a h1 h2 h3 h4 => ?_⟩
      · rcases slot hx with ⟨hi, h⟩ | ⟨hi, j, hj, hfj⟩
        · have q0 := p.wd.sl i x h
          cases x with
          | no => trivial
          | fr d => obtain ⟨u, e1, z⟩ := q0; exact ⟨u, e1, Rp.mono s13 _ _ z⟩
          | ow d =>
            obtain ⟨a, e1, z⟩ := q0
            refine ⟨a, e1, ?_⟩
            obtain ⟨u, hu⟩ := z.some
            have hH : ∀ {o : HO}, H1 a = some o → H' a = some o := fun {o} k => frc.hh a o k (own_keep hi h e1)
            refine ⟨?_, ?_⟩
            · by_cases hb : B a
              · exact h3in hb
              · rw [h3out hb]
                cases k : F' a with
                | none => rfl
                | some o =>
                  rcases fr1.new a o k with k2 | ⟨_, k2⟩
                  · rw [z.1] at k2; cases k2
                  · rcases frc.new a o k with k3 | ⟨_, k3⟩
                    · rw [hout (by rintro (t | b); exact notT ⟨i, d, h, e1⟩ t; exact hb b), z.1] at k3; cases k3
                    · rcases k3 with k3 | k3
                      · exact (own_keep hi h e1 k3).elim
                      · rw [hu] at k3; cases k3
            · obtain ⟨_, z⟩ := z
              cases d with
              | list ys => obtain ⟨zs, z1, z2⟩ := z; exact ⟨zs, hH z1, RpA.mono s13 _ _ z2⟩
              | dict ys => obtain ⟨zs, z1, z2⟩ := z; exact ⟨zs, hH z1, RpK.mono s13 _ _ z2⟩
              | _ => exact z.elim
          | lk k => exact q0.elim
          | ln k => exact q0.elim
        · obtain ⟨u, k1, k2, k3⟩ := lentσ hj hfj
          have q0 := wdc.sl j x hfj
          have hfl := hff x (List.mem_of_getElem? hfj)
          cases x with
          | no => trivial
          | fr d =>
            obtain ⟨u', e1, z⟩ := q0
            rw [k2] at e1
            cases e1
            exact ⟨u, k3, Rp.flatTo tupStay _ _ hfl z⟩
          | ow d =>
            obtain ⟨a, e1, z⟩ := q0
            rw [k2] at e1
            cases e1
            refine ⟨a, k3, flatOwn hfl z fun hb => ?_⟩
            obtain ⟨j2, i2, d2, _, g1, g2, g3, g4⟩ := ownC (pc.sub a ⟨j, d, hfj, k2⟩)
            exact notB g2 g3 g4 hb
          | lk k => exact q0.elim
          | ln k => exact q0.elim
      · rcases slot h1 with ⟨hi, g1⟩ | ⟨hi, j, hj, hfj⟩
        · rcases slot h2 with ⟨hi', g2⟩ | ⟨hi', j', hj', hfj'⟩
          · exact p.wd.inj i i' d d' a g1 g2 h3 h4
          · exfalso
            obtain ⟨u, k1, k2, k3⟩ := lentσ hj' hfj'
            rw [h4] at k3
            cases k3
            exact own_keep hi g1 h3 (pc.sub a ⟨j', d', hfj', k2⟩)
        · rcases slot h2 with ⟨hi', g2⟩ | ⟨hi', j', hj', hfj'⟩
          · exfalso
            obtain ⟨u, k1, k2, k3⟩ := lentσ hj hfj
            rw [h3] at k3
            cases k3
            exact own_keep hi' g2 h4 (pc.sub a ⟨j, d, hfj, k2⟩)
          · obtain ⟨u, k1, k2, k3⟩ := lentσ hj hfj
            obtain ⟨u', k1', k2', k3'⟩ := lentσ hj' hfj'
            rw [h3] at k3
            rw [h4] at k3'
            cases k3
            cases k3'
            have := wdc.inj j j' d d' a hfj hfj' k2 k2'
            subst this
            rw [hj] at hj'
            cases hj'
            rfl
    refine q v F3 H' ⟨frT fr3, wd3, fun a k => p.sub a (backOwn k), ?_, ?_⟩
    · have h1 := pc.rp
      cases w with
      | no => exact h1.elim
      | fr d => exact Rp.flatTo tupStay _ _ hfw h1
      | ow d =>
        obtain ⟨a, ea, o, no⟩ := h1
        have nOwn : ¬ Own (giveBack r1 ws fs) σ a := fun ⟨i, d2, g1, g2⟩ => by
          rcases slot g1 with ⟨hi, h⟩ | ⟨hi, j, hj, hfj⟩
          · rcases pc.nw a ea with k | k
            · obtain ⟨_, u, hu⟩ := p.wd.own ⟨i, d2, h, g2⟩
              rw [hu] at k; cases k
            · exact own_keep hi h g2 k
          · obtain ⟨u, k1, k2, k3⟩ := lentσ hj hfj
            rw [g2] at k3
            cases k3
            exact no ⟨j, d2, hfj, k2⟩
        refine ⟨a, ea, flatOwn hfw o fun hb => ?_, nOwn⟩
        rcases pc.nw a ea with k | k
        · obtain ⟨_, u, hu⟩ := p.wd.own (Bown hb)
          rw [hu] at k; cases k
        · obtain ⟨j2, i2, d2, _, g1, g2, g3, g4⟩ := ownC k
          exact notB g2 g3 g4 hb
      | lk i => cases hfw
      | ln i => cases hfw
    · cases w with
      | ow d => exact fun a ea => (resNew rfl ea).1
      | _ => trivial
  · -- the borrowed things stay frozen
    cases e
    have slot : ∀ {i : Nat} {x : Sl}, (giveBack (freezeAt r1 (ownLk r1 ws)) ws fs)[i]? = some x → (i ∉ lents ws ∧ (freezeAt r1 (ownLk r1 ws))[i]? = some x) ∨ (i ∈ lents ws ∧ ∃ j, ws[j]? = some (Sl.ln i) ∧ fs[j]? = some x) := fun {i x} h => by
      by_cases hi : i ∈ lents ws
      · obtain ⟨j, hj⟩ := of_lents hi
        have hjl : j < fs.length := by have := (List.getElem?_eq_some_iff.mp hj).1; omega
        rw [giveBack_in hnd hj (List.getElem?_eq_getElem hjl) (by rw [freezeAt_len]; exact lentR hi)] at h
        cases h
        exact .inr ⟨hi, j, hj, List.getElem?_eq_getElem hjl⟩
      · rw [giveBack_out hi] at h
        exact .inl ⟨hi, h⟩
    have lentσ : ∀ {i j : Nat} {x : Sl}, ws[j]? = some (Sl.ln i) → fs[j]? = some x → ∃ u, vs[j]? = some u ∧ (vs.map some)[j]? = some (some u) ∧ σ[i]? = some (some u) := fun {i j x} h1 h2 => by
      obtain ⟨u, k1, k2⟩ := p.rp.at h1
      exact ⟨u, k1, by rw [List.getElem?_map, k1]; rfl, k2⟩
    have own_keep : ∀ {i : Nat} {d : PyData} {a : Addr}, i ∉ lents ws → r1[i]? = some (Sl.ow d) → σ[i]? = some (some (V.ref a)) → ¬ Own as (vs.map some) a := fun {i d a} hi h1 h2 k => by
      obtain ⟨j, i', d', _, g1, g2, g3, _⟩ := ownC k
      have := p.wd.inj i i' d d' a h1 g2 h2 g3
      subst this
      exact hi (mem_lents g1)
    have frzOwn : ∀ {i : Nat} {d : PyData}, (freezeAt r1 (ownLk r1 ws))[i]? = some (Sl.ow d) → r1[i]? = some (Sl.ow d) ∧ i ∉ ownLk r1 ws := fun {i d} h => by
      rcases freezeAt_at h with ⟨h1, h2⟩ | ⟨d', h1, h2⟩
      · exact ⟨h1, h2 d rfl⟩
      · cases h2
    have backOwn : ∀ {a : Addr}, Own (giveBack (freezeAt r1 (ownLk r1 ws)) ws fs) σ a → Own r1 σ a := fun {a} ⟨i, d, h1, h2⟩ => by
      rcases slot h1 with ⟨_, h⟩ | ⟨hi, j, hj, hfj⟩
      · exact ⟨i, d, (frzOwn h).1, h2⟩
      · obtain ⟨u, k1, k2, k3⟩ := lentσ hj hfj
        rw [h2] at k3
        cases k3
        exact ownC1 (pc.sub a ⟨j, d, hfj, k2⟩)
    have s1F : Same F1 F' := fr1.ff
    have wd3 : Wd K F' H' (giveBack (freezeAt r1 (ownLk r1 ws)) ws fs) σ := by
      refine ⟨wdc.le, by rw [giveBack_len, freezeAt_len]; exact p.wd.len, fun i x hx => ?_, fun i i' d d' a h1 h2 h3 h4 => ?_⟩
      · rcases slot hx with ⟨hi, h⟩ | ⟨hi, j, hj, hfj⟩
        · rcases freezeAt_at h with ⟨h0, hno⟩ | ⟨d, h0, rfl⟩
          · have q0 := p.wd.sl i x h0
            cases x with
            | no => trivial
            | fr d => obtain ⟨u, e1, z⟩ := q0; exact ⟨u, e1, Rp.mono s1F _ _ z⟩
            | ow d =>
              obtain ⟨a, e1, z⟩ := q0
              refine ⟨a, e1, (own_p z ?_).go frc (own_keep hi h0 e1)⟩
              rintro (t | b)
              · exact notT ⟨i, d, h0, e1⟩ t
              · exact notB h0 e1 (hno d rfl) b
            | lk k => exact q0.elim
            | ln k => exact q0.elim
          · obtain ⟨a, e1, z⟩ := p.wd.sl i _ h0
            refine ⟨.ref a, e1, ?_⟩
            by_cases hb : B a
            · exact Rp.mono frc.ff _ _ (frz_own z (.inr hb))
            · exfalso
              have : i ∈ ownLk r1 ws := by
                cases hm : decide (i ∈ ownLk r1 ws) with
                | true => exact of_decide_eq_true hm
                | false =>
                  exfalso
                  have hm' := of_decide_eq_false hm
                  have : (freezeAt r1 (ownLk r1 ws))[i]? = some (Sl.ow d) := by
                    have go : ∀ (l : List Nat) (r : Env), i ∉ l → (freezeAt r l)[i]? = r[i]? := by
                      intro l
                      induction l with
                      | nil => intro r _; rfl
                      | cons k l ih =>
                        intro r hk
                        simp only [List.mem_cons, not_or] at hk
                        unfold freezeAt
                        split
                        · rw [ih _ hk.2, List.getElem?_set_ne (fun q => hk.1 q.symm)]
                        · exact ih _ hk.2
                    rw [go _ _ hm']
                    exact h0
                  rw [this] at h
                  cases h
              exact hb ⟨i, this, e1⟩
        · obtain ⟨u, k1, k2, k3⟩ := lentσ hj hfj
          have q0 := wdc.sl j x hfj
          cases x with
          | no => trivial
          | fr d =>
            obtain ⟨u', e1, z⟩ := q0
            rw [k2] at e1
            cases e1
            exact ⟨u, k3, z⟩
          | ow d =>
            obtain ⟨a, e1, z⟩ := q0
            rw [k2] at e1
            cases e1
            exact ⟨a, k3, z⟩
          | lk k => exact q0.elim
          | ln k => exact q0.elim
      · rcases slot h1 with ⟨hi, g1⟩ | ⟨hi, j, hj, hfj⟩
        · rcases slot h2 with ⟨hi', g2⟩ | ⟨hi', j', hj', hfj'⟩
          · exact p.wd.inj i i' d d' a (frzOwn g1).1 (frzOwn g2).1 h3 h4
          · exfalso
            obtain ⟨u, k1, k2, k3⟩ := lentσ hj' hfj'
            rw [h4] at k3
            cases k3
            exact own_keep hi (frzOwn g1).1 h3 (pc.sub a ⟨j', d', hfj', k2⟩)
        · rcases slot h2 with ⟨hi', g2⟩ | ⟨hi', j', hj', hfj'⟩
          · exfalso
            obtain ⟨u, k1, k2, k3⟩ := lentσ hj hfj
            rw [h3] at k3
            cases k3
            exact own_keep hi' (frzOwn g2).1 h4 (pc.sub a ⟨j, d, hfj, k2⟩)
          · obtain ⟨u, k1, k2, k3⟩ := lentσ hj hfj
            obtain ⟨u', k1', k2', k3'⟩ := lentσ hj' hfj'
            rw [h3] at k3
            rw [h4] at k3'
            cases k3
            cases k3'
            have := wdc.inj j j' d d' a hfj hfj' k2 k2'
            subst this
            rw [hj] at hj'
            cases hj'
            rfl
    refine q v F' H' ⟨frT fr1, wd3, fun a k => p.sub a (backOwn k), ?_, ?_⟩
    · have h1 := pc.rp
      cases w with
      | no => exact h1.elim
      | fr d => exact h1
      | ow d =>
        obtain ⟨a, ea, o, no⟩ := h1
        refine ⟨a, ea, o, fun ⟨i, d2, g1, g2⟩ => ?_⟩
        rcases slot g1 with ⟨hi, h⟩ | ⟨hi, j, hj, hfj⟩
        · rcases pc.nw a ea with k | k
          · obtain ⟨_, u, hu⟩ := p.wd.own ⟨i, d2, (frzOwn h).1, g2⟩
            rw [hu] at k; cases k
          · exact own_keep hi (frzOwn h).1 g2 k
        · obtain ⟨u, k1, k2, k3⟩ := lentσ hj hfj
          rw [g2] at k3
          cases k3
          exact no ⟨j, d2, hfj, k2⟩
      | lk i => cases hiv
      | ln i => cases hiv
    · cases w with
      | ow d => exact fun a ea => (resNew rfl ea).1
      | _ => trivial
end
end Bx

set_option Elab.async false
set_option linter.all false
set_option maxRecDepth 100000
set_option autoImplicit false
set_option maxHeartbeats 2000000
/-! The text against the small language; the context; readings weakened. -/
namespace Bx
open PySem PySem.Spec PyProof.Rows L2

/-- what the globals are: defs, constants, built-in names that no def hides -/
structure Gm where
  funs : List (Str × Nat)
  cons : List (Str × Cn)
  blts : List Str

def btN : Bt → Str
  | .len => "len"
  | .sum1 => "sum"
  | .min1 => "min"
  | .max1 => "max"
  | .min2 => "min"
  | .max2 => "max"
  | .abs => "abs"
  | .int1 => "int"
  | .str1 => "str"
  | .sorted => "sorted"
  | .repr => "repr"
  | .list1 => "list"
  | .tuple1 => "tuple"
  | .all => "all"
  | .any => "any"
def tyS : Ty → Str
  | .int => "int"
  | .bool => "bool"
  | .str => "str"
  | .list => "list"
  | .tuple => "tuple"
  | .dict => "dict"
def muN : Mu → Str
  | .append => "append"
  | .extend => "extend"
  | .pop => "pop"
  | .insert => "insert"
  | .reverse => "reverse"
  | .clear => "clear"
def nmOk (x : Str) : Bool := !(x == ("__debug__" : Str)) && !(x == ("__classdict__" : Str))
def visB (sc : Scope) (x : Str) : Bool := match sc.names.lookup x with
  | some .local => true
  | some .cell => true
  | some .free => true
  | _ => false
def storB (sc : Scope) (x : Str) : Bool := match sc.names.lookup x with
  | some .local => true
  | some .cell => true
  | _ => false
def gloB (sc : Scope) (x : Str) : Bool := match sc.names.lookup x with
  | some .globalImplicit => true
  | _ => false
def notStar : Expr → Bool
  | .Starred _ _ => false
  | _ => true
def noStars : List Expr → Bool
  | [] => true
  | e :: es => notStar e && noStars es
def notSet : Expr → Bool
  | .Set _ _ _ => false
  | _ => true
def isSlice : Expr → Bool
  | .Slice _ _ _ _ => true
  | _ => false
/-- an expression whose test is its value's truth -/
def plainT : Expr → Bool
  | .BoolOp _ _ _ => false
  | .UnaryOp .Not _ _ => false
  | .IfExp _ _ _ _ => false
  | .Compare _ _ _ _ => false
  | _ => true
def isTupE : Expr → Bool
  | .Tuple _ _ _ => true
  | _ => false
def mV (N : List Str) (sc : Scope) (i : Nat) (x : Str) : Bool := decide (N[i]? = some x) && visB sc x && nmOk x
def mK (G : Gm) (sc : Scope) (c : Cn) : Expr → Bool
  | .Constant .none _ _ => decide (c = .none)
  | .Constant (.bool b) _ _ => decide (c = .bool b)
  | .Constant (.int i) _ _ => decide (c = .int i)
  | .Constant (.str x) _ _ => decide (c = .str x)
  | .Name x _ => decide (G.cons.lookup x = some c) && gloB sc x && nmOk x
  | _ => false
def mTy (G : Gm) (sc : Scope) (t : Ty) : Expr → Bool
  | .Name x _ => decide (x = tyS t) && gloB sc x && G.blts.contains x
  | _ => false
def mTys (G : Gm) (sc : Scope) : List Ty → List Expr → Bool
  | [], [] => true
  | t :: ts, e :: es => mTy G sc t e && mTys G sc ts es
  | _, _ => false
/-- targets: slots, names that may be stored to -/
def mT (N : List Str) (own : Scope) : Tg → Sum Expr (List Expr) → Bool
  | .nm i, .inl (.Name x _) => decide (N[i]? = some x) && storB own x
  | .tup a b, .inl (.Tuple (e :: es) _ _) => notStar e && mT N own a (.inl e) && mT N own b (.inr es)
  | .tup a b, .inr (e :: es) => notStar e && mT N own a (.inl e) && mT N own b (.inr es)
  | .tupn, .inr [] => true
  | _, _ => false
/-- a clause's tests: none, one -/
def isYes : Ex → Bool
  | .k (.bool true) => true
  | _ => false
def ownN (N : List Str) (own : List Nat) : List (Str × Nat) := own.map fun i => ((N[i]?).getD "", i)
mutual
def mE (N : List Str) (G : Gm) : Scope → Ex → Expr → Bool
  | sc, .k c, ae => mK G sc c ae
  | sc, .v i, .Name x _ => mV N sc i x
  | sc, .mv i, .Name x _ => mV N sc i x
  | sc, .bw i, .Name x _ => mV N sc i x
  | sc, .ln i, .Name x _ => mV N sc i x
  | sc, .tup es, .Tuple as _ _ => mEs N G sc es as
  | sc, .lst es, .List as _ => mEs N G sc es as
  | sc, .bin o a b, .BinOp x op y _ => decide (op = bopA o) && mE N G sc a x && mE N G sc b y
  | sc, .neg a, .UnaryOp .USub x _ => mE N G sc a x
  | sc, .nt a, .UnaryOp .Not x _ => mE N G sc a x
  | sc, .cmp o a b, .Compare x [op] [y] _ => decide (op = copA o) && notSet y && mE N G sc a x && mE N G sc b y
  | sc, .ch o p a b c, .Compare x [op, op'] [y, z] _ => decide (op = copA o) && decide (op' = copA p) && notSet z && mE N G sc a x && mE N G sc b y && mE N G sc c z
  | sc, .an a b, .BoolOp .And (x :: y :: ys) pos => mE N G sc a x && (match ys with | [] => mE N G sc b y | _ => mE N G sc b (.BoolOp .And (y :: ys) pos))
  | sc, .orr a b, .BoolOp .Or (x :: y :: ys) pos => mE N G sc a x && (match ys with | [] => mE N G sc b y | _ => mE N G sc b (.BoolOp .Or (y :: ys) pos))
  | sc, .ix a b, .Subscript x y _ => !isSlice y && mE N G sc a x && mE N G sc b y
  | sc, .sl a lo hi, .Subscript x (.Slice l h none _) _ => mE N G sc a x && (match l with | none => isNoneE lo | some l => !isNoneE lo && mE N G sc lo l) && (match h with | none => isNoneE hi | some h => !isNoneE hi && mE N G sc hi h)
  | sc, .call f es, .Call (.Name x _) as [] _ => decide (G.funs.lookup x = some f) && gloB sc x && nmOk x && noStars as && mEs N G sc es as
  | sc, .bt b es, .Call (.Name x _) as [] _ => decide (x = btN b) && gloB sc x && G.blts.contains x && noStars as && !as.isEmpty && mEs N G sc es as
  | sc, .isi a ts, .Call (.Name x _) [y, t] [] _ => decide (x = ("isinstance" : Str)) && gloB sc x && G.blts.contains x && notStar y && mE N G sc a y && (match t with | .Tuple es _ _ => noStars es && mTys G sc ts es && decide (ts.length < 100) | .Name z p => (match ts with | [u] => mTy G sc u (.Name z p) | _ => false) | _ => false)
  | sc, .mu m i es, .Call (.Attribute (.Name x _) name apos) as [] pos => mV N sc i x && decide (name = muN m) && (apos.endLine == pos.line) && noStars as && decide (as.length < 29) && mEs N G sc es as
  | sc, .lc t it c e own, .ListComp elt [⟨tg, iter, ifs, ia⟩] scope _ =>
    decide (ia = 0) && blkC N sc scope (ownN N own) && t.st.all (fun i => own.contains i) && mT N scope t (.inl tg) && notSet iter && mI N G sc it tg iter &&
      (match ifs with | [] => isYes c | [x] => mE N G (relS scope sc) c x | _ => false) && mE N G (relS scope sc) e elt
  | _, _, _ => false
def mEs (N : List Str) (G : Gm) : Scope → Exs → List Expr → Bool
  | _, .nil, [] => true
  | sc, .cons e es, a :: as => notStar a && mE N G sc e a && mEs N G sc es as
  | _, _, _ => false
def mI (N : List Str) (G : Gm) : Scope → Itr → Expr → Expr → Bool
  | sc, .ov e, _, a => mE N G sc e a
  | sc, .rg es, _, .Call (.Name x _) as [] _ => decide (x = ("range" : Str)) && gloB sc x && G.blts.contains x && noStars as && mEs N G sc es as && decide (as.length = 1 ∨ as.length = 2)
  | sc, .zp es, tg, .Call (.Name x _) as [] _ => decide (x = ("zip" : Str)) && gloB sc x && G.blts.contains x && noStars as && mEs N G sc es as && isTupE tg && decide (as.length = 2)
  | sc, .en e, tg, .Call (.Name x _) [a] [] _ => decide (x = ("enumerate" : Str)) && gloB sc x && G.blts.contains x && notStar a && mE N G sc e a && isTupE tg
  | _, _, _, _ => false
end

def isCall : Expr → Bool
  | .Call _ _ _ _ => true
  | _ => false
def isTupV : Expr → Bool
  | .Tuple _ _ _ => true
  | _ => false
/-- name = [..] whose list is built where the name stands -/
def swB (sc : Scope) (x : Str) (pos : Pos) : Expr → Bool
  | .ListComp _ _ s p => decide (sc.names.lookup x = some .local) && (pos.line == p.line) && !(s.names.any fun (n, k) => n == x && (k == .local || k == .cell))
  | _ => false
def loc2 (N : List Str) (sc : Scope) (i : Nat) (x : Str) : Bool := decide (N[i]? = some x) && decide (sc.names.lookup x = some .local)
def mAs (N : List Str) (G : Gm) (sc : Scope) (t : Tg) (e : Ex) : Stmt → Bool
  | .Assign [tg] a _ => mT N sc t (.inl tg) && mE N G sc e a && !(isTupV tg && isTupV a)
  | _ => false
def mPar (N : List Str) (G : Gm) (sc : Scope) (i j : Nat) (a b : Ex) : Stmt → Bool
  | .Assign [.Tuple [.Name x px, .Name y py] _ _] (.Tuple [u, v] _ _) _ => loc2 N sc i x && loc2 N sc j y && (px.line == py.line) && notStar u && notStar v && mE N G sc a u && mE N G sc b v && !(foldedForSure 8 u && foldedForSure 8 v) && !(constantsAlone 8 u && constantsAlone 8 v) && !(x == y)
  | _ => false
def mSx (N : List Str) (G : Gm) (sc : Scope) (i : Nat) (x e : Ex) : Stmt → Bool
  | .Assign [.Subscript (.Name n _) ix _] a _ => mV N sc i n && !isSlice ix && mE N G sc x ix && mE N G sc e a
  | _ => false
mutual
def mS (N : List Str) (G : Gm) (sc : Scope) : S → Stmt → Bool
  | .as t e, st => mAs N G sc t e st
  | .par i j a b, st => mPar N G sc i j a b st
  | .sx i x e, st => mSx N G sc i x e st
  | .ex e, .Expr a _ => isCall a && mE N G sc e a
  | .rt e, .Return (some a) _ => mE N G sc e a
  | .rt e, .Return none _ => isNoneE e
  | .iff c a b, .If t x y _ => mE N G sc c t && mB N G sc a x && mB N G sc b y
  | .fo t it b _, .For tg iter body [] _ => mT N sc t (.inl tg) && notSet iter && mI N G sc it tg iter && mB N G sc b body
  | .wh c b _, .While t body [] _ => mE N G sc c t && mB N G sc b body
  | .nv, _ => true
  | _, _ => false
def mB (N : List Str) (G : Gm) (sc : Scope) : Ss → List Stmt → Bool
  | .nil, [] => true
  | .cons s q, a :: as => mS N G sc s a && mB N G sc q as
  | _, _ => false
end

/-! ### the context -/
def Cn.v : Cn → V
  | .none => .non
  | .bool b => .bl b
  | .int i => .int i
  | .str s => .str s
theorem Cn.rp {K : PySem.W.Frag} {F : Hp} (c : Cn) : Rp K F c.d c.v := by cases c <;> simp [Cn.d, Cn.v, Rp]
structure Gd (G : Gm) (C : Call) (k : Nat) (X : Cx) (own : Scope) : Prop where
  calm : X.calm = true
  nd : X.N.Nodup
  gd : X.A.guards = some []
  rm : Room k X.A
  kd : X.env.scope.kind = .function
  sto : ∀ x, (own.names.lookup x = some .local ∨ own.names.lookup x = some .cell) → Loc X.env.scope x ∧ (X.fn x = true ∨ X.env.scope.names.lookup x = some .local)
  funs : ∀ x f, G.funs.lookup x = some f → ∃ a fd ps, X.mg x = some (.ref a) ∧ PySem.W.keepIn X.K (.ref a) = true ∧ Binds X.K fd ps [] ∧ FnG X.prog X.w X.K X.mg X.base k a fd ps (spF C X.K f)
  cons : ∀ x c, G.cons.lookup x = some c → ∃ u, X.mg x = some u ∧ RelV c.v u
  blts : ∀ x, G.blts.contains x = true → X.mg x = none
section
variable {G : Gm} {C : Call} {k : Nat} {X : Cx} {own : Scope}
theorem Gd.units (g : Gd G C k X own) : X.A.units + 100 < cLine := by have := g.rm.un; omega
theorem visB_of {sc : Scope} {x : Str} (h : visB sc x = true) : Vis sc x := by
  unfold visB at h
  split at h
  · rename_i e; exact .inl e
  · rename_i e; exact .inr (.inl e)
  · rename_i e; exact .inr (.inr e)
  · cases h
theorem storB_of {sc : Scope} {x : Str} (h : storB sc x = true) : sc.names.lookup x = some .local ∨ sc.names.lookup x = some .cell := by
  unfold storB at h
  split at h
  · rename_i e; exact .inl e
  · rename_i e; exact .inr e
  · cases h
theorem gloB_of {x : Str} (h : gloB X.env.scope x = true) : Gl X x := by
  unfold gloB at h
  split at h
  · rename_i e; exact e
  · cases h
theorem nmOk_of {x : Str} (h : nmOk x = true) : (x == ("__debug__" : Str)) = false ∧ (x == ("__classdict__" : Str)) = false := by
  unfold nmOk at h
  simpa using h
theorem mV_of {i : Nat} {x : Str} (h : mV X.N X.env.scope i x = true) {pos : Pos} : PE X (.Name x pos) (tVar i) := by
  unfold mV at h
  simp only [Bool.and_eq_true, decide_eq_true_eq] at h
  obtain ⟨⟨h1, h2⟩, h3⟩ := h
  exact pe_var h1 (visB_of h2) (nmOk_of h3).1 (nmOk_of h3).2
/-- the block's context -/
theorem Gd.blk (g : Gd G C k X own) (s : Shared) (H : Hp) (scope : Scope) (cl : List (Str × Addr)) (A : Addr) (fp : List Addr) (hk : scope.kind = .function) : Gd G C k (X.blk s H scope (compEnvC scope cl A X.env) fp) scope where
  calm := g.calm
  nd := g.nd
  gd := g.gd
  rm := g.rm
  kd := hk
  sto := fun x h => by
    have keep : ∀ {kk : NameKind}, kk ≠ .free → scope.names.lookup x = some kk → (relS scope X.env.scope).names.lookup x = some kk := fun hk h => lookup_relS_keep hk h
    rcases h with h | h
    · exact ⟨.inl (keep (by decide) h), .inr (keep (by decide) h)⟩
    · refine ⟨.inr (keep (by decide) h), .inl ?_⟩
      show (scope.names.lookup x == some .cell) = true
      rw [h]
      rfl
  funs := g.funs
  cons := g.cons
  blts := g.blts

/-! ### weaker readings -/
theorem PE.imp {e : Expr} {t t' : TE} (h : PE X e t) (i : ∀ σ H Q, t' σ H Q → t σ H Q) : PE X e t' := ⟨fun pins s σ H Q I q => h.run pins s σ H Q I (i _ _ _ q)⟩
theorem PT.imp {e : Expr} {t t' : TT} (h : PT X e t) (i : ∀ σ H Q, t' σ H Q → t σ H Q) : PT X e t' := ⟨fun pins s σ H Q I q => h.run pins s σ H Q I (i _ _ _ q)⟩
theorem PW.imp {e : Expr} {t t' : TT} (h : PW X e t) (i : ∀ σ H Q, t' σ H Q → t σ H Q) : PW X e t' := ⟨fun wh pins s σ H Q I q => h.run wh pins s σ H Q I (i _ _ _ q)⟩
theorem PA.imp {e : List Expr} {t t' : TA} (h : PA X e t) (i : ∀ σ H Q, t' σ H Q → t σ H Q) : PA X e t' := ⟨fun pos pins s σ H Q I q => h.run pos pins s σ H Q I (i _ _ _ q)⟩
theorem PI.imp {tg e : Expr} {t t' : TI} (h : PI X tg e t) (i : ∀ σ H Q, t' σ H Q → t σ H Q) : PI X tg e t' := ⟨fun pins s σ H Q I q => h.run pins s σ H Q I (i _ _ _ q)⟩
theorem PG.imp {e : Expr} {t t' : TG} (h : PG X e t) (i : ∀ v σ H Q, t' v σ H Q → t v σ H Q) : PG X e t' := ⟨fun pins s σ H v u Q I r q => h.run pins s σ H v u Q I r (i _ _ _ _ q)⟩
theorem PS.imp {e : Stmt} {t t' : TS} (h : PS X e t) (i : ∀ D σ H, t' D σ H → t D σ H) : PS X e t' := ⟨fun pins s σ H D I q => h.run pins s σ H D I (i _ _ _ q)⟩
theorem PSs.imp {e : List Stmt} {t t' : TS} (h : PSs X e t) (i : ∀ D σ H, t' D σ H → t D σ H) : PSs X e t' := ⟨fun pins s σ H D I q => h.run pins s σ H D I (i _ _ _ q)⟩

/-! ### a call of a def that no exception leaves -/
variable {f : Addr} {fd : FuncData} {ps : List Str} {sp : List V → Hp → VK → Prop} {x : Str} {p pos : Pos} {e : Expr} {es : List Expr} {t : TA}
theorem run_fnG {pins : List (Addr × Obj)} {σ : SG} {H : Hp} {s : Shared} {Q : VK} {us : List Value} {vs : List V} (F : FnG X.prog X.w X.K X.mg X.base k f fd ps sp) (hr : Room k X.A) (hgd : X.A.guards = some []) (hb : Binds X.K fd ps [])
    (I : Inv X pins σ H s) (r : Vals vs us) (h : sp vs H Q) : wpAny (model X.prog X.w) X.A (call (.ref f) us) (EP X pins σ Q) X.xe s := by
  have bt := hb s us I.kIn (by rw [List.append_nil, ← r.length]; exact F.len _ _ _ h)
  rw [List.append_nil] at bt
  refine wpAny_call (codeAny_mono (F.run X.A X.stack s H ⟨us, []⟩ us vs Q hr hgd I.env0 bt r h) fun rr s' hq => ?_)
  cases rr with
  | error ex => exact hq.elim
  | ok fl =>
    cases fl with
    | ret u => exact I.after hq
    | next => exact False.elim hq
    | brk => exact False.elim hq
    | cont => exact False.elim hq
theorem star_cons {env : PySem.Env} {e : Expr} {es : List Expr} (h : notStar e = true) : starEach (e :: es) env = (false, eval e env) :: starEach es env := by
  cases e <;> first | rfl | cases h
theorem star_none {env : PySem.Env} {pos : Pos} : ∀ {es : List Expr}, noStars es = true → (backTo pos (starEach es env)).any (·.1) = false
  | [], _ => rfl
  | e :: es, h => by
    unfold noStars at h
    simp only [Bool.and_eq_true] at h
    rw [star_cons h.1]
    show (false || (backTo pos (starEach es env)).any (·.1)) = false
    rw [star_none h.2]
    rfl
theorem star_all {env : PySem.Env} {pos : Pos} : ∀ {es : List Expr}, noStars es = true → (backTo pos (starEach es env)).all (fun x => !x.1) = true
  | [], _ => rfl
  | e :: es, h => by
    unfold noStars at h
    simp only [Bool.and_eq_true] at h
    rw [star_cons h.1]
    show (true && (backTo pos (starEach es env)).all (fun x => !x.1)) = true
    rw [star_all h.2]
    rfl
theorem noStars_tail {e : Expr} {es : List Expr} (h : noStars (e :: es) = true) : notStar e = true ∧ noStars es = true := by
  unfold noStars at h
  simpa using h
def tCallG (sp : List V → Hp → VK → Prop) (t : TA) : TE := fun σ H Q => t σ H fun vs H1 => sp vs H1 Q
theorem pe_callGx (F : FnG X.prog X.w X.K X.mg X.base k f fd ps sp) (hr : Room k X.A) (hgd : X.A.guards = some []) (hg : Gl X x) (hm : X.mg x = some (.ref f)) (hk : PySem.W.keepIn X.K (.ref f) = true) (hb : Binds X.K fd ps [])
    (ha : PA X (e :: es) t) (hdb : (x == ("__debug__" : Str)) = false) (hn : noStars (e :: es) = true) : PE X (.Call (.Name x p) (e :: es) [] pos) (tCallG sp t) := by
  refine ⟨fun pins s σ H Q I h => ?_⟩
  refine wpAny_Call_Name_kw (ld_glob I hg hm ?_ hdb)
  obtain ⟨h1, h2⟩ := noStars_tail hn
  refine PySem.W.callWith_K (h₀ := X.base) I.ok.mod.kin hk (thn (ha.run pos pins s σ H _ I h) fun us s1 ⟨vs, H1, I1, r, q⟩ => ⟨I1.kIn, ?_⟩) (star_cons h1) (star_none h2)
  exact run_fnG F hr hgd hb I1 r q
theorem pe_callGx0 (F : FnG X.prog X.w X.K X.mg X.base k f fd ps sp) (hr : Room k X.A) (hgd : X.A.guards = some []) (hg : Gl X x) (hm : X.mg x = some (.ref f)) (hk : PySem.W.keepIn X.K (.ref f) = true) (hb : Binds X.K fd ps [])
    (hdb : (x == ("__debug__" : Str)) = false) : PE X (.Call (.Name x p) [] [] pos) (tCallG sp tNil) := by
  refine ⟨fun pins s σ H Q I h => ?_⟩
  refine wpAny_Call_Name_kw (ld_glob I hg hm ?_ hdb)
  exact PySem.W.callWith_K0 I.kIn hk (run_fnG (us := []) F hr hgd hb I .nil h)
end
end Bx

set_option Elab.async false
set_option linter.all false
set_option maxRecDepth 100000
set_option autoImplicit false
set_option maxHeartbeats 2000000
/-! Expressions, one kind at a time: the evaluator's reading against the layer's. -/
namespace Bx
open PySem PySem.Spec PyProof.Rows L2

section
variable {C : Call} {K : PySem.W.Frag} {F H F1 H1 F2 H2 : Hp} {r r1 r2 : Env} {σ : SG}
/-! ### slots set anew -/
theorem Wd.lt (w : Wd K F H r σ) {i : Nat} {x : Sl} (h : r[i]? = some x) : i < r.length := (List.getElem?_eq_some_iff.mp h).1
theorem set_get {i j : Nat} {x y : Sl} (h : (r.set i x)[j]? = some y) : (i = j ∧ y = x) ∨ (i ≠ j ∧ r[j]? = some y) := by
  by_cases e : i = j
  · subst e
    left
    by_cases hl : i < r.length
    · rw [List.getElem?_set_self hl] at h
      exact ⟨rfl, (Option.some.inj h).symm⟩
    · rw [List.getElem?_eq_none (by simpa using hl)] at h
      cases h
  · rw [List.getElem?_set_ne e] at h
    exact .inr ⟨e, h⟩
/-- a slot forgotten, or told frozen data -/
theorem Wd.setS (w : Wd K F H r σ) {i : Nat} {x : Sl} (hx : SlOk K F H σ i x) (no : ∀ d, x ≠ .ow d) : Wd K F H (r.set i x) σ := by
  refine ⟨w.le, by rw [List.length_set]; exact w.len, fun j y h => ?_, fun j j' d d' a h1 h2 h3 h4 => ?_⟩
  · rcases set_get h with ⟨rfl, rfl⟩ | ⟨_, h⟩
    · exact hx
    · exact w.sl j y h
  · rcases set_get h1 with ⟨rfl, e⟩ | ⟨_, h1⟩
    · exact (no d e.symm).elim
    rcases set_get h2 with ⟨rfl, e⟩ | ⟨_, h2⟩
    · exact (no d' e.symm).elim
    exact w.inj j j' d d' a h1 h2 h3 h4
theorem own_setS {i : Nat} {x : Sl} (no : ∀ d, x ≠ .ow d) {a : Addr} (h : Own (r.set i x) σ a) : Own r σ a := by
  obtain ⟨j, d, h1, h2⟩ := h
  rcases set_get h1 with ⟨rfl, e⟩ | ⟨_, h1⟩
  · exact (no d e.symm).elim
  · exact ⟨j, d, h1, h2⟩
/-- an owned thing written to -/
theorem Wd.write (w : Wd K F H r σ) {i : Nat} {d d' : PyData} {a : Addr} {o : HO} (hi : r[i]? = some (Sl.ow d)) (hs : σ[i]? = some (some (V.ref a))) (ho : OwnAt K F (upd H a o) d' a) : Wd K F (upd H a o) (r.set i (.ow d')) σ := by
  have hF : F a = none := (w.own ⟨i, d, hi, hs⟩).1
  refine ⟨fun b u e => by rw [upd_ne (ne_of_none e hF)]; exact w.le b u e, by rw [List.length_set]; exact w.len, fun j y h => ?_, fun j j' e e' b h1 h2 h3 h4 => ?_⟩
  · rcases set_get h with ⟨rfl, rfl⟩ | ⟨ne, h⟩
    · exact ⟨a, hs, ho⟩
    · have q := w.sl j y h
      cases y with
      | no => trivial
      | fr x => exact q
      | ow x =>
        obtain ⟨b, e1, z⟩ := q
        have nb : b ≠ a := fun e => ne (w.inj i j d x a hi h hs (e ▸ e1))
        refine ⟨b, e1, z.1, ?_⟩
        obtain ⟨_, z⟩ := z
        cases x with
        | list ys => obtain ⟨zs, z1, z2⟩ := z; exact ⟨zs, by rw [upd_ne nb]; exact z1, z2⟩
        | dict ys => obtain ⟨zs, z1, z2⟩ := z; exact ⟨zs, by rw [upd_ne nb]; exact z1, z2⟩
        | _ => exact z.elim
      | lk k => exact q.elim
      | ln k => exact q.elim
  · have back : ∀ {j : Nat} {e : PyData}, (r.set i (.ow d'))[j]? = some (Sl.ow e) → ∃ e0, r[j]? = some (Sl.ow e0) := fun {j e} h => by
      rcases set_get h with ⟨rfl, _⟩ | ⟨_, h⟩
      · exact ⟨d, hi⟩
      · exact ⟨e, h⟩
    obtain ⟨e0, h1⟩ := back h1
    obtain ⟨e1, h2⟩ := back h2
    exact w.inj j j' e0 e1 b h1 h2 h3 h4
theorem own_write {i : Nat} {d d' : PyData} (hi : r[i]? = some (Sl.ow d)) {a : Addr} (h : Own (r.set i (.ow d')) σ a) : Own r σ a := by
  obtain ⟨j, e, h1, h2⟩ := h
  rcases set_get h1 with ⟨rfl, _⟩ | ⟨_, h1⟩
  · exact ⟨i, d, hi, h2⟩
  · exact ⟨j, e, h1, h2⟩
theorem Fr.write {O : Addr → Prop} (f : Fr O F H F1 H1) {a : Addr} {o : HO} (h : O a) : Fr O F H F1 (upd H1 a o) :=
  ⟨f.ff, f.new, fun c u e n => by rw [upd_ne (fun z : c = a => n (by rw [z]; exact h))]; exact f.hh c u e n⟩

/-! ### one, two values -/
theorem Nw.back {w : Sl} {v : V} (f : Fr (Own r σ) F H F1 H1) (sub : ∀ a, Own r1 σ a → Own r σ a) (n : Nw r1 σ H1 w v) : Nw r σ H w v := by
  cases w with
  | ow d =>
    intro a e
    rcases n a e with q | q
    · by_cases no : Own r σ a
      · exact .inr no
      · left
        cases k : H a with
        | none => rfl
        | some u => rw [f.hh a u k no] at q; cases q
    · exact .inr (sub a q)
  | _ => trivial
theorem NwL.back : ∀ {ws : List Sl} {vs : List V}, Fr (Own r σ) F H F1 H1 → (∀ a, Own r1 σ a → Own r σ a) → NwL r1 σ H1 ws vs → NwL r σ H ws vs
  | [], _, _, _, _ => by simp [NwL]
  | _ :: _, [], _, _, _ => by simp [NwL]
  | w :: ws, v :: vs, f, s, n => by
    unfold NwL at n ⊢
    exact ⟨n.1.back f s, NwL.back f s n.2⟩
theorem tE_two {a b : Ex} {x y : Sl} (wd : Wd K F H r σ) (ha : evE C a r = some (x, r1)) (hb : evE C b r1 = some (y, r2)) {R : V → V → Hp → Prop}
    (h : ∀ v u F2 H2, Fr (Own r σ) F H F2 H2 → Wd K F2 H2 r2 σ → (∀ c, Own r2 σ c → Own r σ c) → RpV K F2 H2 r2 σ x v → RpV K F2 H2 r2 σ y u → Nw r σ H x v → Nw r σ H y u → R v u H2) :
    tE C K a σ H fun v H1 => tE C K b σ H1 fun u H2 => R v u H2 := by
  refine ⟨F, r, x, r1, wd, ha, fun v F1 H1 p => ⟨F1, r1, y, r2, p.wd, hb, fun u F2 H2 q => ?_⟩⟩
  exact h v u F2 H2 (p.fr.trans q.fr fun c k => .inl (p.sub c k)) q.wd (fun c k => p.sub c (q.sub c k)) (p.rp.go q.fr q.sub) q.rp p.nw (q.nw.back p.fr p.sub)
/-- what an operator gives, as an expression's -/
theorem Res.of {w : Sl} {Q : VK} (f : Fr (Own r σ) F H F1 H1) (wd : Wd K F1 H1 r1 σ) (sub : ∀ a, Own r1 σ a → Own r σ a) (q : ∀ v F' H', Pe K F H r σ r1 w v F' H' → Q v H') : Res K F1 H1 w Q :=
  fun v F' H' f2 le g => q v F' H' (Pe.res f wd sub f2 le g)
theorem Pe.same {d : PyData} {v : V} (f : Fr (Own r σ) F H F1 H1) (wd : Wd K F1 H1 r1 σ) (sub : ∀ a, Own r1 σ a → Own r σ a) (h : Rp K F1 d v) : Pe K F H r σ r1 (.fr d) v F1 H1 := ⟨f, wd, sub, h, trivial⟩

/-! ### tests -/
theorem tT_val {e : Ex} {Q : Bool → Hp → Prop} (h : tT C K e σ H Q) : tE C K e σ H fun x H1 => ∃ c, x = .bl c ∧ Q c H1 := by
  obtain ⟨F, r, b, r', wd, he, q⟩ := h
  exact ⟨F, r, .fr (.bool b), r', wd, he, fun v F' H' p => ⟨b, p.rp, q F' H' p.fr p.wd p.sub⟩⟩

/-! ### names, constants -/
theorem core_k {c : Cn} {Q : VK} (h : tE C K (.k c) σ H Q) : Q c.v H := by
  obtain ⟨F, r, w, r', wd, he, q⟩ := h
  simp only [evE, Option.some.injEq, Prod.mk.injEq] at he
  obtain ⟨rfl, rfl⟩ := he
  exact q _ F H (Pe.same Fr.refl wd (fun _ k => k) c.rp)
theorem mv_pe (wd : Wd K F H r σ) {i : Nat} {d : PyData} (hr : r[i]? = some (Sl.ow d)) : ∃ a, σ[i]? = some (some (V.ref a)) ∧ Pe K F H r σ (r.set i .no) (.ow d) (.ref a) F H := by
  obtain ⟨a, e1, z⟩ := wd.sl i _ hr
  refine ⟨a, e1, Fr.refl, wd.setS (x := .no) trivial (fun _ => nofun), fun c k => own_setS (x := .no) (fun _ => nofun) k, ⟨a, rfl, z, fun k => ?_⟩, fun b e => ?_⟩
  · obtain ⟨j, d', h1, h2⟩ := k
    rcases set_get h1 with ⟨_, e⟩ | ⟨ne, h1⟩
    · cases e
    · exact ne (wd.inj i j d d' a hr h1 e1 h2)
  · cases e
    exact .inr ⟨i, d, hr, e1⟩
theorem core_mv {i : Nat} {Q : VK} (h : tE C K (.mv i) σ H Q) : tVar i σ H Q := by
  obtain ⟨F, r, w, r', wd, he, q⟩ := h
  simp only [evE] at he
  split at he
  · rename_i d hr
    simp only [Option.some.injEq, Prod.mk.injEq] at he
    obtain ⟨rfl, rfl⟩ := he
    obtain ⟨v, e1, z⟩ := wd.sl i _ hr
    exact ⟨v, e1, q _ F H (Pe.same Fr.refl wd (fun _ k => k) z)⟩
  · rename_i d hr
    simp only [Option.some.injEq, Prod.mk.injEq] at he
    obtain ⟨rfl, rfl⟩ := he
    obtain ⟨a, e1, p⟩ := mv_pe wd hr
    exact ⟨.ref a, e1, q _ F H p⟩
  · cases he
theorem core_v {i : Nat} {Q : VK} (h : tE C K (.v i) σ H Q) : tVar i σ H Q := by
  obtain ⟨F, r, w, r', wd, he, q⟩ := h
  simp only [evE] at he
  split at he
  · rename_i d hr
    simp only [Option.some.injEq, Prod.mk.injEq] at he
    obtain ⟨rfl, rfl⟩ := he
    obtain ⟨v, e1, z⟩ := wd.sl i _ hr
    exact ⟨v, e1, q _ F H (Pe.same Fr.refl wd (fun _ k => k) z)⟩
  · rename_i d hr
    simp only [Option.some.injEq, Prod.mk.injEq] at he
    obtain ⟨rfl, rfl⟩ := he
    obtain ⟨a, e1, p⟩ := mv_pe wd hr
    obtain ⟨F2, f, w2, z, s⟩ := freeze1 (d := d) p rfl
    refine ⟨.ref a, e1, q _ F2 H ⟨f, ?_, fun c k => own_setS (x := .fr d) (fun _ => nofun) k, z, trivial⟩⟩
    have := w2.setS (i := i) (x := .fr d) ⟨_, e1, z⟩ fun _ => nofun
    rwa [List.set_set] at this
  · cases he
theorem core_bw {i : Nat} {Q : VK} (h : tE C K (.bw i) σ H Q) : tVar i σ H Q := by
  obtain ⟨F, r, w, r', wd, he, q⟩ := h
  simp only [evE] at he
  split at he
  · rename_i d hr
    simp only [Option.some.injEq, Prod.mk.injEq] at he
    obtain ⟨rfl, rfl⟩ := he
    obtain ⟨v, e1, z⟩ := wd.sl i _ hr
    exact ⟨v, e1, q _ F H ⟨Fr.refl, wd, fun _ k => k, e1, trivial⟩⟩
  · rename_i d hr
    simp only [Option.some.injEq, Prod.mk.injEq] at he
    obtain ⟨rfl, rfl⟩ := he
    obtain ⟨a, e1, z⟩ := wd.sl i _ hr
    exact ⟨_, e1, q _ F H ⟨Fr.refl, wd, fun _ k => k, e1, trivial⟩⟩
  · cases he
theorem core_ln {i : Nat} {Q : VK} (h : tE C K (.ln i) σ H Q) : tVar i σ H Q := by
  obtain ⟨F, r, w, r', wd, he, q⟩ := h
  simp only [evE] at he
  split at he
  · rename_i d hr
    simp only [Option.some.injEq, Prod.mk.injEq] at he
    obtain ⟨rfl, rfl⟩ := he
    obtain ⟨a, e1, z⟩ := wd.sl i _ hr
    exact ⟨_, e1, q _ F H ⟨Fr.refl, wd, fun _ k => k, e1, trivial⟩⟩
  · cases he

/-! ### lists of expressions -/
def tEs (C : Call) (K : PySem.W.Frag) (es : Exs) : TA := fun σ H Q => ∃ F r ws r', Wd K F H r σ ∧ evEs C es r = some (ws, r') ∧ ∀ vs F' H', PeL K F H r σ r' ws vs F' H' → Q vs H'
theorem core_nil {Q : List V → Hp → Prop} (h : tEs C K .nil σ H Q) : tNil σ H Q := by
  obtain ⟨F, r, w, r', wd, he, q⟩ := h
  simp only [evEs, Option.some.injEq, Prod.mk.injEq] at he
  obtain ⟨rfl, rfl⟩ := he
  exact q [] F H ⟨Fr.refl, wd, fun _ k => k, rfl, by simp [NwL]⟩
theorem core_cons {e : Ex} {es : Exs} {Q : List V → Hp → Prop} (h : tEs C K (.cons e es) σ H Q) : tCons (tE C K e) (tEs C K es) σ H Q := by
  obtain ⟨F, r, w, r', wd, he, q⟩ := h
  simp only [evEs] at he
  split at he
  · rename_i x r1 h1
    split at he
    · rename_i ws r2 h2
      simp only [Option.some.injEq, Prod.mk.injEq] at he
      obtain ⟨rfl, rfl⟩ := he
      refine ⟨F, r, x, r1, wd, h1, fun v F1 H1 p => ⟨F1, r1, ws, r2, p.wd, h2, fun vs F2 H2 p2 => ?_⟩⟩
      exact q _ F2 H2 ⟨p.fr.trans p2.fr fun c k => .inl (p.sub c k), p2.wd, fun c k => p.sub c (p2.sub c k), ⟨v, vs, rfl, p.rp.go p2.fr p2.sub, p2.rp⟩, p.nw, p2.nw.back p.fr p.sub⟩
    · cases he
  · cases he
/-- what stands in a display is frozen -/
theorem disp {es : Exs} {ws : List Sl} {ds : List PyData} {r' : Env} {w : Sl} {Q : VK} {mk : List V → HO} (wd : Wd K F H r σ) (he : evEs C es r = some (ws, r')) (hf : fzL ws = some ds) (hz : ds.length ≤ SZ)
    (q : ∀ v F' H', Pe K F H r σ r' w v F' H' → Q v H') (h : ∀ vs F2 H2, Same F2 H2 → RpA K F2 ds vs → Res K F2 H2 w Q → ∀ p, H2 p = none → Q (.ref p) (upd H2 p (mk vs))) :
    tEs C K es σ H fun xs H1 => xs.length ≤ sizeLine ∧ ∀ p, H1 p = none → Q (.ref p) (upd H1 p (mk xs)) := by
  refine ⟨F, r, ws, r', wd, he, fun vs F1 H1 p => ?_⟩
  obtain ⟨F2, f, w2, z, s⟩ := freeze p hf
  exact ⟨by rw [← z.len, ← SZ_eq]; exact hz, h vs F2 H1 w2.le z (Res.of f w2 p.sub q)⟩
theorem core_tup {es : Exs} {Q : VK} (h : tE C K (.tup es) σ H Q) : tTup (tEs C K es) σ H Q := by
  obtain ⟨F, r, w, r', wd, he, q⟩ := h
  simp only [evE] at he
  split at he
  · rename_i ws r1 h1
    split at he
    · rename_i ds h2
      split at he
      · rename_i hz
        simp only [Option.some.injEq, Prod.mk.injEq] at he
        obtain ⟨rfl, rfl⟩ := he
        exact disp wd h1 h2 hz q fun vs F2 H2 le z res p hp => res.newT le z hp
      · cases he
    · cases he
  · cases he
theorem core_lst {es : Exs} {Q : VK} (h : tE C K (.lst es) σ H Q) : tLst (tEs C K es) σ H Q := by
  obtain ⟨F, r, w, r', wd, he, q⟩ := h
  simp only [evE] at he
  split at he
  · rename_i ws r1 h1
    split at he
    · rename_i ds h2
      split at he
      · rename_i hz
        simp only [Option.some.injEq, Prod.mk.injEq] at he
        obtain ⟨rfl, rfl⟩ := he
        exact disp wd h1 h2 hz q fun vs F2 H2 le z res p hp => res.newL le z hp
      · cases he
    · cases he
  · cases he

/-! ### operators -/
theorem core_bin {o : BOp} {a b : Ex} {Q : VK} (h : tE C K (.bin o a b) σ H Q) : tOp (rBin K o) (tE C K a) (tE C K b) σ H Q := by
  obtain ⟨F, r, w, r', wd, he, q⟩ := h
  simp only [evE] at he
  split at he
  · rename_i x r1 h1
    split at he
    · rename_i y r2 h2
      split at he
      · rename_i d e h3 h4
        split at he
        · rename_i u h5
          simp only [Option.some.injEq, Prod.mk.injEq] at he
          obtain ⟨rfl, rfl⟩ := he
          exact tE_two wd h1 h2 fun v w F2 H2 f w2 sub p1 p2 _ _ => ⟨F2, d, e, u, w2.le, see_ok w2 p1 h3, see_ok w2 p2 h4, h5, Res.of f w2 sub q⟩
        · cases he
      · cases he
    · cases he
  · cases he
theorem core_cmp {o : COp} {a b : Ex} {Q : VK} (h : tE C K (.cmp o a b) σ H Q) : tOp (rCmp K o) (tE C K a) (tE C K b) σ H Q := by
  obtain ⟨F, r, w, r', wd, he, q⟩ := h
  simp only [evE] at he
  split at he
  · rename_i x r1 h1
    split at he
    · rename_i y r2 h2
      split at he
      · rename_i d e h3 h4
        split at he
        · rename_i u h5
          simp only [Option.some.injEq, Prod.mk.injEq] at he
          obtain ⟨rfl, rfl⟩ := he
          exact tE_two wd h1 h2 fun v w F2 H2 f w2 sub p1 p2 _ _ => ⟨F2, d, e, u, w2.le, see_ok w2 p1 h3, see_ok w2 p2 h4, h5, q _ F2 H2 (Pe.same f w2 sub rfl)⟩
        · cases he
      · cases he
    · cases he
  · cases he
theorem core_ix {a b : Ex} {Q : VK} (h : tE C K (.ix a b) σ H Q) : tOp (rIdx K) (tE C K a) (tE C K b) σ H Q := by
  obtain ⟨F, r, w, r', wd, he, q⟩ := h
  simp only [evE] at he
  split at he
  · rename_i x r1 h1
    split at he
    · rename_i y r2 h2
      split at he
      · rename_i d e h3 h4
        split at he
        · rename_i u h5
          simp only [Option.some.injEq, Prod.mk.injEq] at he
          obtain ⟨rfl, rfl⟩ := he
          exact tE_two wd h1 h2 fun v w F2 H2 f w2 sub p1 p2 _ _ => ⟨F2, d, e, u, w2.le, see_ok w2 p1 h3, see_ok w2 p2 h4, h5, fun g hg => q _ F2 H2 (Pe.same f w2 sub hg)⟩
        · cases he
      · cases he
    · cases he
  · cases he
theorem core_neg {a : Ex} {Q : VK} (h : tE C K (.neg a) σ H Q) : tUn (rU fun i => .int (-i)) (tE C K a) σ H Q := by
  obtain ⟨F, r, w, r', wd, he, q⟩ := h
  simp only [evE] at he
  split at he
  · rename_i i r1 h1
    simp only [Option.some.injEq, Prod.mk.injEq] at he
    obtain ⟨rfl, rfl⟩ := he
    exact ⟨F, r, _, r1, wd, h1, fun v F1 H1 p => ⟨i, p.rp, q _ F1 H1 (Pe.same p.fr p.wd p.sub rfl)⟩⟩
  · cases he
theorem core_nt {a : Ex} {Q : VK} (h : tE C K (.nt a) σ H Q) : tNotV (tE C K a) σ H Q := by
  obtain ⟨F, r, w, r', wd, he, q⟩ := h
  simp only [evE] at he
  split at he
  · rename_i i r1 h1
    simp only [Option.some.injEq, Prod.mk.injEq] at he
    obtain ⟨rfl, rfl⟩ := he
    exact ⟨F, r, _, r1, wd, h1, fun v F1 H1 p => ⟨i, p.rp, q _ F1 H1 (Pe.same p.fr p.wd p.sub rfl)⟩⟩
  · cases he
theorem core_ntT {a : Ex} {Q : Bool → Hp → Prop} (h : tT C K (.nt a) σ H Q) : tNot (tT C K a) σ H Q := by
  obtain ⟨F, r, b, r', wd, he, q⟩ := h
  simp only [evE] at he
  split at he
  · rename_i i r1 h1
    simp only [Option.some.injEq, Prod.mk.injEq, Sl.fr.injEq, PyData.bool.injEq] at he
    obtain ⟨rfl, rfl⟩ := he
    exact ⟨F, r, _, r1, wd, h1, fun F1 H1 f w s => q F1 H1 f w s⟩
  · cases he
theorem core_an {a b : Ex} {Q : VK} (h : tE C K (.an a b) σ H Q) : tAndV (tE C K a) (tE C K b) σ H Q := by
  obtain ⟨F, r, w, r', wd, he, q⟩ := h
  simp only [evE] at he
  split at he
  · rename_i r1 h1
    split at he
    · rename_i c r2 h2
      simp only [Option.some.injEq, Prod.mk.injEq] at he
      obtain ⟨rfl, rfl⟩ := he
      refine ⟨F, r, _, r1, wd, h1, fun v F1 H1 p => ⟨true, p.rp, ?_⟩⟩
      rw [if_pos rfl]
      exact ⟨F1, r1, _, r2, p.wd, h2, fun v F2 H2 p2 => q _ F2 H2 ⟨p.fr.trans p2.fr fun c k => .inl (p.sub c k), p2.wd, fun c k => p.sub c (p2.sub c k), p2.rp, trivial⟩⟩
    · cases he
  · rename_i r1 h1
    simp only [Option.some.injEq, Prod.mk.injEq] at he
    obtain ⟨rfl, rfl⟩ := he
    refine ⟨F, r, _, r1, wd, h1, fun v F1 H1 p => ⟨false, p.rp, ?_⟩⟩
    rw [if_neg (by decide)]
    exact q _ F1 H1 (Pe.same p.fr p.wd p.sub rfl)
  · cases he
theorem core_orr {a b : Ex} {Q : VK} (h : tE C K (.orr a b) σ H Q) : tOrV (tE C K a) (tE C K b) σ H Q := by
  obtain ⟨F, r, w, r', wd, he, q⟩ := h
  simp only [evE] at he
  split at he
  · rename_i r1 h1
    simp only [Option.some.injEq, Prod.mk.injEq] at he
    obtain ⟨rfl, rfl⟩ := he
    refine ⟨F, r, _, r1, wd, h1, fun v F1 H1 p => ⟨true, p.rp, ?_⟩⟩
    rw [if_pos rfl]
    exact q _ F1 H1 (Pe.same p.fr p.wd p.sub rfl)
  · rename_i r1 h1
    split at he
    · rename_i c r2 h2
      simp only [Option.some.injEq, Prod.mk.injEq] at he
      obtain ⟨rfl, rfl⟩ := he
      refine ⟨F, r, _, r1, wd, h1, fun v F1 H1 p => ⟨false, p.rp, ?_⟩⟩
      rw [if_neg (by decide)]
      exact ⟨F1, r1, _, r2, p.wd, h2, fun v F2 H2 p2 => q _ F2 H2 ⟨p.fr.trans p2.fr fun c k => .inl (p.sub c k), p2.wd, fun c k => p.sub c (p2.sub c k), p2.rp, trivial⟩⟩
    · cases he
  · cases he
theorem core_anT {a b : Ex} {Q : Bool → Hp → Prop} (h : tT C K (.an a b) σ H Q) : tAnd (tT C K a) (tT C K b) σ H Q := by
  obtain ⟨F, r, w, r', wd, he, q⟩ := h
  simp only [evE] at he
  split at he
  · rename_i r1 h1
    split at he
    · rename_i c r2 h2
      simp only [Option.some.injEq, Prod.mk.injEq, Sl.fr.injEq, PyData.bool.injEq] at he
      obtain ⟨rfl, rfl⟩ := he
      refine ⟨F, r, true, r1, wd, h1, fun F1 H1 f w s => ?_⟩
      show tT C K b σ H1 Q
      exact ⟨F1, r1, _, r2, w, h2, fun F2 H2 f2 w2 s2 => q F2 H2 (f.trans f2 fun c k => .inl (s c k)) w2 (fun c k => s c (s2 c k))⟩
    · cases he
  · rename_i r1 h1
    simp only [Option.some.injEq, Prod.mk.injEq, Sl.fr.injEq, PyData.bool.injEq] at he
    obtain ⟨rfl, rfl⟩ := he
    refine ⟨F, r, false, r1, wd, h1, fun F1 H1 f w s => ?_⟩
    show Q false H1
    exact q F1 H1 f w s
  · cases he
theorem core_orT {a b : Ex} {Q : Bool → Hp → Prop} (h : tT C K (.orr a b) σ H Q) : tOr (tT C K a) (tT C K b) σ H Q := by
  obtain ⟨F, r, w, r', wd, he, q⟩ := h
  simp only [evE] at he
  split at he
  · rename_i r1 h1
    simp only [Option.some.injEq, Prod.mk.injEq, Sl.fr.injEq, PyData.bool.injEq] at he
    obtain ⟨rfl, rfl⟩ := he
    refine ⟨F, r, true, r1, wd, h1, fun F1 H1 f w s => ?_⟩
    show Q true H1
    exact q F1 H1 f w s
  · rename_i r1 h1
    split at he
    · rename_i c r2 h2
      simp only [Option.some.injEq, Prod.mk.injEq, Sl.fr.injEq, PyData.bool.injEq] at he
      obtain ⟨rfl, rfl⟩ := he
      refine ⟨F, r, false, r1, wd, h1, fun F1 H1 f w s => ?_⟩
      show tT C K b σ H1 Q
      exact ⟨F1, r1, _, r2, w, h2, fun F2 H2 f2 w2 s2 => q F2 H2 (f.trans f2 fun c k => .inl (s c k)) w2 (fun c k => s c (s2 c k))⟩
    · cases he
  · cases he
theorem core_ch {o p : COp} {a b c : Ex} {Q : VK} (h : tE C K (.ch o p a b c) σ H Q) : tChain (rCmp K o) (rCmp K p) (tE C K a) (tE C K b) (tE C K c) σ H Q := by
  obtain ⟨F, r, w, r', wd, he, q⟩ := h
  simp only [evE] at he
  split at he
  · rename_i x r1 h1
    split at he
    · rename_i y r2 h2
      split at he
      · rename_i d e h3 h4
        split at he
        · rename_i h5
          split at he
          · rename_i z r3 h6
            split at he
            · rename_i e' g h7 h8
              split at he
              · rename_i u h9
                simp only [Option.some.injEq, Prod.mk.injEq] at he
                obtain ⟨rfl, rfl⟩ := he
                refine tE_two wd h1 h2 fun v w F2 H2 f w2 sub p1 p2 _ _ => ⟨F2, d, e, true, w2.le, see_ok w2 p1 h3, see_ok w2 p2 h4, h5, true, rfl, ?_⟩
                rw [if_pos rfl]
                refine ⟨F2, r2, z, r3, w2, h6, fun v3 F3 H3 p3 => ?_⟩
                exact ⟨F3, e', g, u, p3.wd.le, see_ok p3.wd (p2.go p3.fr p3.sub) h7, see_ok p3.wd p3.rp h8, h9, q _ F3 H3 (Pe.same (f.trans p3.fr fun c k => .inl (sub c k)) p3.wd (fun c k => sub c (p3.sub c k)) rfl)⟩
              · cases he
            · cases he
          · cases he
        · rename_i h5
          simp only [Option.some.injEq, Prod.mk.injEq] at he
          obtain ⟨rfl, rfl⟩ := he
          refine tE_two wd h1 h2 fun v w F2 H2 f w2 sub p1 p2 _ _ => ⟨F2, d, e, false, w2.le, see_ok w2 p1 h3, see_ok w2 p2 h4, h5, false, rfl, ?_⟩
          rw [if_neg (by decide)]
          exact q _ F2 H2 (Pe.same f w2 sub rfl)
        · cases he
      · cases he
    · cases he
  · cases he
/-! ### slices -/
def tPO (C : Call) (K : PySem.W.Frag) (e : Ex) : TO := if isNoneE e then tNoPart else tPart (tE C K e)
theorem isNoneE_of {e : Ex} (h : isNoneE e = true) : e = .k .none := by
  unfold isNoneE at h
  split at h
  · rfl
  · cases h
theorem po_step {e : Ex} {y : PyData} {o : Option Int} (wd : Wd K F H r σ) (he : evE C e r = some (.fr y, r1)) (hp : partD e y = some o) {Q : Option Int → Hp → Prop}
    (q : ∀ F1 H1, Fr (Own r σ) F H F1 H1 → Wd K F1 H1 r1 σ → (∀ c, Own r1 σ c → Own r σ c) → Q o H1) : tPO C K e σ H Q := by
  unfold tPO
  unfold partD at hp
  by_cases hn : isNoneE e = true
  · rw [if_pos hn] at hp ⊢
    cases hp
    have := isNoneE_of hn
    subst this
    simp only [evE, Option.some.injEq, Prod.mk.injEq] at he
    obtain ⟨_, rfl⟩ := he
    exact q F H Fr.refl wd (fun _ k => k)
  · rw [if_neg hn] at hp ⊢
    split at hp
    · cases hp
      exact ⟨F, r, _, r1, wd, he, fun v F1 H1 p => ⟨_, p.rp, q F1 H1 p.fr p.wd p.sub⟩⟩
    · cases hp
theorem core_sl {a lo hi : Ex} {Q : VK} (h : tE C K (.sl a lo hi) σ H Q) : tSl (rSlD K) (tE C K a) (tPO C K lo) (tPO C K hi) σ H Q := by
  obtain ⟨F, r, w, r', wd, he, q⟩ := h
  simp only [evE] at he
  split at he
  · rename_i x r1 h1
    split at he
    · rename_i y r2 h2
      split at he
      · rename_i z r3 h3
        split at he
        · rename_i d l hh h4 h5 h6
          split at he
          · rename_i u h7
            simp only [Option.some.injEq, Prod.mk.injEq] at he
            obtain ⟨rfl, rfl⟩ := he
            refine ⟨F, r, x, r1, wd, h1, fun v F1 H1 p => ?_⟩
            refine po_step p.wd h2 h5 fun F2 H2 f2 w2 s2 => ?_
            refine po_step w2 h3 h6 fun F3 H3 f3 w3 s3 => ?_
            have f : Fr (Own r σ) F H F3 H3 := (p.fr.trans f2 fun c k => .inl (p.sub c k)).trans f3 fun c k => .inl (p.sub c (s2 c k))
            exact ⟨F3, d, u, w3.le, see_ok w3 ((p.rp.go f2 s2).go f3 s3) h4, h7, Res.of f w3 (fun c k => p.sub c (s2 c (s3 c k))) q⟩
          · cases he
        · cases he
      · cases he
    · cases he
  · cases he
/-! ### calls -/
theorem core_call {f : Nat} {es : Exs} {Q : VK} (h : tE C K (.call f es) σ H Q) : tCallG (spF C K f) (tEs C K es) σ H Q := by
  obtain ⟨F, r, w, r', wd, he, q⟩ := h
  simp only [evE] at he
  split at he
  · rename_i ws r1 h1
    exact ⟨F, r, ws, r1, wd, h1, fun vs F1 H1 p => call_ok p he q⟩
  · cases he
theorem core_bt {b : Bt} {es : Exs} {Q : VK} (h : tE C K (.bt b es) σ H Q) : tCB (rBt K b) (tEs C K es) σ H Q := by
  obtain ⟨F, r, w, r', wd, he, q⟩ := h
  simp only [evE] at he
  split at he
  · rename_i ws r1 h1
    split at he
    · rename_i ds h2
      split at he
      · rename_i u h3
        simp only [Option.some.injEq, Prod.mk.injEq] at he
        obtain ⟨rfl, rfl⟩ := he
        exact ⟨F, r, ws, r1, wd, h1, fun vs F1 H1 p => ⟨F1, ds, u, p.wd.le, seeL_ok p.wd p.rp h2, h3, Res.of p.fr p.wd p.sub q⟩⟩
      · cases he
    · cases he
  · cases he
theorem core_isi {a : Ex} {ts : List Ty} {Q : VK} (h : tE C K (.isi a ts) σ H Q) : ∃ F r w r', Wd K F H r σ ∧ evE C a r = some (w, r') ∧ ∀ v F1 H1, Pe K F H r σ r' w v F1 H1 → ∃ d, Vw K F1 H1 d v ∧ ∀ F2 H2, Fr noO F1 H1 F2 H2 → Same F2 H2 → Q (.bl (ts.any (isTy d))) H2 := by
  obtain ⟨F, r, w, r', wd, he, q⟩ := h
  simp only [evE] at he
  split at he
  · rename_i x r1 h1
    split at he
    · rename_i d h2
      simp only [Option.some.injEq, Prod.mk.injEq] at he
      obtain ⟨rfl, rfl⟩ := he
      refine ⟨F, r, x, r1, wd, h1, fun v F1 H1 p => ⟨d, see_ok p.wd p.rp h2, fun F2 H2 f le => ?_⟩⟩
      exact q _ F2 H2 (Pe.res p.fr p.wd p.sub f le rfl)
    · cases he
  · cases he
theorem core_mu {m : Mu} {i : Nat} {es : Exs} {Q : VK} (h : tE C K (.mu m i es) σ H Q) : tBM K "list" (rMu K m) (tVar i) (tEs C K es) σ H Q := by
  obtain ⟨F, r, w, r', wd, he, q⟩ := h
  simp only [evE] at he
  split at he
  · rename_i xs0 hr0
    split at he
    · rename_i ws r1 h1
      split at he
      · rename_i xs hr1
        split at he
        · rename_i ds h2
          split at he
          · rename_i y ys h3
            simp only [Option.some.injEq, Prod.mk.injEq] at he
            obtain ⟨rfl, rfl⟩ := he
            obtain ⟨a, e1, z⟩ := wd.sl i _ hr0
            obtain ⟨_, vs0, z1, z2⟩ := z
            refine ⟨.ref a, e1, .inl ⟨rfl, vs0, .inl (.inl z1)⟩, F, r, ws, r1, wd, h1, fun vs F1 H1 p => ?_⟩
            have key : ∀ F2, Fr (Own r σ) F H F2 H1 → Wd K F2 H1 r1 σ → MuArgs K F2 H1 m ds vs → rMu K m (.ref a) vs H1 Q := fun F2 f w2 ag => by
              obtain ⟨b, e2, y0, vs1, y1, y2⟩ := w2.sl i _ hr1
              rw [e1] at e2
              cases e2
              refine ⟨F2, a, xs, vs1, ds, y, ys, rfl, w2.le, y1, y2, ag, h3, fun v us rv ru => ?_⟩
              have w3 : Wd K F2 (upd H1 a (.lst us)) (r1.set i (.ow (.list ys))) σ := w2.write hr1 e1 ⟨y0, us, upd_same, ru⟩
              exact q v F2 _ ⟨f.write (p.sub a ⟨i, _, hr1, e1⟩), w3, fun c k => p.sub c (own_write hr1 k), rv, trivial⟩
            have fz : ∀ {ds'}, fzL ws = some ds' → ∃ F2, Fr (Own r σ) F H F2 H1 ∧ Wd K F2 H1 r1 σ ∧ RpA K F2 ds' vs := fun h => by
              obtain ⟨F2, f, w2, z, s⟩ := freeze p h
              exact ⟨F2, f, w2, z⟩
            cases m with
            | extend => exact key F1 p.fr p.wd (seeL_ok p.wd p.rp h2)
            | append => obtain ⟨F2, f, w2, z⟩ := fz h2; exact key F2 f w2 z
            | pop => obtain ⟨F2, f, w2, z⟩ := fz h2; exact key F2 f w2 z
            | insert => obtain ⟨F2, f, w2, z⟩ := fz h2; exact key F2 f w2 z
            | reverse => obtain ⟨F2, f, w2, z⟩ := fz h2; exact key F2 f w2 z
            | clear => obtain ⟨F2, f, w2, z⟩ := fz h2; exact key F2 f w2 z
          · cases he
        · cases he
      · cases he
    · cases he
  · cases he
end
end Bx

set_option Elab.async false
set_option linter.all false
set_option maxRecDepth 100000
set_option autoImplicit false
set_option maxHeartbeats 2000000
/-! Targets; what is walked; comprehensions. -/
namespace Bx
open PySem PySem.Spec PyProof.Rows L2

def Exs.len : Exs → Nat
  | .nil => 0
  | .cons _ es => es.len + 1
section
variable {C : Call} {K : PySem.W.Frag} {F H F1 H1 F2 H2 : Hp} {r r1 r2 : Env} {σ σ1 : SG}
/-! ### slots hidden, put back -/
theorem hide_len : ∀ {l : List Nat} {r : Env}, (hide r l).length = r.length
  | [], r => rfl
  | i :: l, r => by
    unfold hide
    rw [hide_len, List.length_set]
theorem hide_out : ∀ {l : List Nat} {r : Env} {j : Nat}, j ∉ l → (hide r l)[j]? = r[j]?
  | [], r, j, h => rfl
  | i :: l, r, j, h => by
    simp only [List.mem_cons, not_or] at h
    unfold hide
    rw [hide_out h.2, List.getElem?_set_ne fun e => h.1 e.symm]
theorem hide_in : ∀ {l : List Nat} {r : Env} {j : Nat} {x : Sl}, j ∈ l → (hide r l)[j]? = some x → x = .no
  | [], r, j, x, h, e => by simp at h
  | i :: l, r, j, x, h, e => by
    unfold hide at e
    by_cases hj : j ∈ l
    · exact hide_in hj e
    · rw [hide_out hj] at e
      have : j = i := by simpa [hj] using h
      subst this
      rcases set_get e with ⟨_, e⟩ | ⟨n, _⟩
      · exact e
      · exact (n rfl).elim
theorem hide_get {l : List Nat} {r : Env} {j : Nat} {x : Sl} (h : (hide r l)[j]? = some x) : (j ∈ l ∧ x = .no) ∨ (j ∉ l ∧ r[j]? = some x) := by
  by_cases hj : j ∈ l
  · exact .inl ⟨hj, hide_in hj h⟩
  · exact .inr ⟨hj, by rw [← hide_out hj]; exact h⟩
theorem kill_hide : ∀ {l : List Nat} {r : Env}, killS r l = hide r l
  | [], r => rfl
  | i :: l, r => by
    unfold killS hide
    exact kill_hide
theorem back_len : ∀ {l : List Nat} {o r : Env}, (back o r l).length = r.length
  | [], o, r => rfl
  | i :: l, o, r => by
    unfold back
    rw [back_len, List.length_set]
theorem back_out : ∀ {l : List Nat} {o r : Env} {j : Nat}, j ∉ l → (back o r l)[j]? = r[j]?
  | [], o, r, j, h => rfl
  | i :: l, o, r, j, h => by
    simp only [List.mem_cons, not_or] at h
    unfold back
    rw [back_out h.2, List.getElem?_set_ne fun e => h.1 e.symm]
theorem back_in : ∀ {l : List Nat} {o r : Env} {j : Nat} {x : Sl}, j ∈ l → (back o r l)[j]? = some x → x = o.getD j .no
  | [], o, r, j, x, h, e => by simp at h
  | i :: l, o, r, j, x, h, e => by
    unfold back at e
    by_cases hj : j ∈ l
    · exact back_in hj e
    · rw [back_out hj] at e
      have : j = i := by simpa [hj] using h
      subst this
      rcases set_get e with ⟨_, e⟩ | ⟨n, _⟩
      · exact e
      · exact (n rfl).elim
theorem own_hide {l : List Nat} {a : Addr} (h : Own (hide r l) σ a) : Own r σ a := by
  obtain ⟨i, d, h1, h2⟩ := h
  rcases hide_get h1 with ⟨_, e⟩ | ⟨_, e⟩
  · cases e
  · exact ⟨i, d, e, h2⟩
theorem Wd.hide (w : Wd K F H r σ) (l : List Nat) : Wd K F H (hide r l) σ := by
  refine ⟨w.le, by rw [hide_len]; exact w.len, fun i x h => ?_, fun i j d d' a h1 h2 h3 h4 => ?_⟩
  · rcases hide_get h with ⟨_, rfl⟩ | ⟨_, e⟩
    · trivial
    · exact w.sl i x e
  · rcases hide_get h1 with ⟨_, e⟩ | ⟨_, e1⟩
    · cases e
    rcases hide_get h2 with ⟨_, e⟩ | ⟨_, e2⟩
    · cases e
    exact w.inj i j d d' a e1 e2 h3 h4
/-- slots of which nothing is known may hold anything -/
theorem Wd.agree (w : Wd K F H r σ) (hl : σ1.length = σ.length) (h : ∀ (j : Nat) (x : Sl), r[j]? = some x → x ≠ .no → σ1[j]? = σ[j]?) : Wd K F H r σ1 := by
  refine ⟨w.le, w.len.trans hl.symm, fun i x e => ?_, fun i j d d' a h1 h2 h3 h4 => ?_⟩
  · have q := w.sl i x e
    cases x with
    | no => trivial
    | fr d => obtain ⟨v, e1, z⟩ := q; exact ⟨v, by rw [h i _ e nofun]; exact e1, z⟩
    | ow d => obtain ⟨v, e1, z⟩ := q; exact ⟨v, by rw [h i _ e nofun]; exact e1, z⟩
    | lk k => exact q.elim
    | ln k => exact q.elim
  · rw [h i _ h1 nofun] at h3
    rw [h j _ h2 nofun] at h4
    exact w.inj i j d d' a h1 h2 h3 h4
theorem own_agree (h : ∀ (j : Nat) (x : Sl), r[j]? = some x → x ≠ .no → σ1[j]? = σ[j]?) {a : Addr} (o : Own r σ1 a) : Own r σ a := by
  obtain ⟨i, d, h1, h2⟩ := o
  exact ⟨i, d, h1, by rw [← h i _ h1 nofun]; exact h2⟩
theorem hide_wipe {own : List Nat} (j : Nat) (x : Sl) (h : (hide r own)[j]? = some x) (n : x ≠ .no) : (wipe σ own)[j]? = σ[j]? := by
  rcases hide_get h with ⟨_, e⟩ | ⟨hj, _⟩
  · exact (n e).elim
  · exact wipe_out hj
/-- behind a loop: the hidden slots as they were -/
theorem Wd.back {o r5 : Env} {σ' : SG} {hs : List Nat} {P : Addr → Prop} (w1 : Wd K F1 H1 o σ) (w2 : Wd K F2 H2 r5 σ') (f : Fr (Own (Bx.hide o hs) σ) F1 H1 F2 H2) (hO : ∀ j ∈ hs, ∃ d, o[j]? = some (Sl.ow d))
    (sub : ∀ a, Own r5 σ' a → P a) (hP : ∀ a, P a → Own (Bx.hide o hs) σ a ∨ H1 a = none) (ag : ∀ j ∈ hs, σ'[j]? = σ[j]?) : Wd K F2 H2 (Bx.back o r5 hs) σ' ∧ ∀ a, Own (Bx.back o r5 hs) σ' a → Own r5 σ' a ∨ (Own o σ a ∧ ¬ P a) := by
  have get : ∀ {j : Nat} {x : Sl}, (Bx.back o r5 hs)[j]? = some x → (j ∈ hs ∧ o[j]? = some x) ∨ (j ∉ hs ∧ r5[j]? = some x) := fun {j x} h => by
    by_cases hj : j ∈ hs
    · left
      obtain ⟨d, hd⟩ := hO j hj
      have := back_in hj h
      subst this
      exact ⟨hj, by rw [List.getD_eq_getElem?_getD, hd]; rfl⟩
    · exact .inr ⟨hj, by rw [← back_out hj]; exact h⟩
  have nh : ∀ {j : Nat} {d : PyData} {a : Addr}, j ∈ hs → o[j]? = some (Sl.ow d) → σ[j]? = some (some (V.ref a)) → ¬ Own (Bx.hide o hs) σ a := fun {j d a} hj h1 h2 k => by
    obtain ⟨i, d', g1, g2⟩ := k
    rcases hide_get g1 with ⟨_, e⟩ | ⟨ni, e⟩
    · cases e
    · have := w1.inj j i d d' a h1 e h2 g2
      exact ni (this ▸ hj)
  have np : ∀ {j : Nat} {d : PyData} {a : Addr}, j ∈ hs → o[j]? = some (Sl.ow d) → σ[j]? = some (some (V.ref a)) → ¬ P a := fun {j d a} hj h1 h2 k => by
    rcases hP a k with k | k
    · exact nh hj h1 h2 k
    · obtain ⟨_, u, hu⟩ := w1.own ⟨j, d, h1, h2⟩
      rw [hu] at k; cases k
  refine ⟨⟨w2.le, by rw [back_len]; exact w2.len, fun i x h => ?_, fun i j d d' a h1 h2 h3 h4 => ?_⟩, fun a ⟨i, d, h1, h2⟩ => ?_⟩
  · rcases get h with ⟨hi, e⟩ | ⟨_, e⟩
    · have q := w1.sl i x e
      cases x with
      | no => trivial
      | fr d => obtain ⟨v, e1, z⟩ := q; exact ⟨v, by rw [ag i hi]; exact e1, Rp.mono f.ff _ _ z⟩
      | ow d => obtain ⟨a, e1, z⟩ := q; exact ⟨a, by rw [ag i hi]; exact e1, z.go f (nh hi e e1)⟩
      | lk k => exact q.elim
      | ln k => exact q.elim
    · exact w2.sl i x e
  · have mix : ∀ {i j : Nat} {d d' : PyData}, i ∈ hs → o[i]? = some (Sl.ow d) → σ'[i]? = some (some (V.ref a)) → r5[j]? = some (Sl.ow d') → σ'[j]? = some (some (V.ref a)) → False := fun {i j d d'} hi e1 e2 e3 e4 => by
      rw [ag i hi] at e2
      exact np hi e1 e2 (sub a ⟨j, d', e3, e4⟩)
    rcases get h1 with ⟨hi, e⟩ | ⟨_, e⟩
    · rcases get h2 with ⟨hj, e'⟩ | ⟨_, e'⟩
      · rw [ag i hi] at h3
        rw [ag j hj] at h4
        exact w1.inj i j d d' a e e' h3 h4
      · exact (mix hi e h3 e' h4).elim
    · rcases get h2 with ⟨hj, e'⟩ | ⟨_, e'⟩
      · exact (mix hj e' h4 e h3).elim
      · exact w2.inj i j d d' a e e' h3 h4
  · rcases get h1 with ⟨hi, e⟩ | ⟨_, e⟩
    · rw [ag i hi] at h2
      exact .inr ⟨⟨i, d, e, h2⟩, np hi e h2⟩
    · exact .inl ⟨i, d, e, h2⟩

/-! ### targets -/
/-- what a store tells: slots beside it stay, nothing is owned that was not -/
def tG (K : PySem.W.Frag) (t : Tg) : TG := fun v σ H Q => ∃ F d r r', Wd K F H r σ ∧ Rp K F d v ∧ asgT t d r = some r' ∧
  ∀ σ', Wd K F H r' σ' → (∀ j, j ∉ t.st → σ'[j]? = σ[j]?) → (∀ a, Own r' σ' a → Own r σ a) → Q σ' H
def tGs (K : PySem.W.Frag) (t : Tg) : TGs := fun vs σ H Q => ∃ F ds r r', Wd K F H r σ ∧ RpA K F ds vs ∧ asgT t (.tuple ds) r = some r' ∧
  ∀ σ', Wd K F H r' σ' → (∀ j, j ∉ t.st → σ'[j]? = σ[j]?) → (∀ a, Own r' σ' a → Own r σ a) → Q σ' H
theorem set_st {i : Nat} {v : Option V} (w : Wd K F H r σ) {j : Nat} (h : i ≠ j) : (σ.set i v)[j]? = σ[j]? := List.getElem?_set_ne h
/-- a slot stored to, frozen -/
theorem Wd.put (w : Wd K F H r σ) {i : Nat} {d : PyData} {v : V} (hi : i < r.length) (q : Rp K F d v) : Wd K F H (r.set i (.fr d)) (σ.set i (some v)) := by
  have hi' : i < σ.length := by rw [← w.len]; exact hi
  have w1 : Wd K F H (r.set i .no) (σ.set i (some v)) := (w.setS (i := i) (x := .no) trivial fun _ => nofun).agree (List.length_set ..) fun j x h n => by
    rcases set_get h with ⟨_, e⟩ | ⟨ne, _⟩
    · exact (n e).elim
    · exact List.getElem?_set_ne ne
  have := w1.setS (i := i) (x := .fr d) ⟨v, List.getElem?_set_self hi', q⟩ fun _ => nofun
  rwa [List.set_set] at this
theorem own_put {i : Nat} {x : Sl} {v : Option V} (no : ∀ d, x ≠ .ow d) {a : Addr} (h : Own (r.set i x) (σ.set i v) a) : Own r σ a := by
  obtain ⟨j, d, h1, h2⟩ := h
  rcases set_get h1 with ⟨rfl, e⟩ | ⟨ne, h1⟩
  · exact (no d e.symm).elim
  · rw [List.getElem?_set_ne ne] at h2
    exact ⟨j, d, h1, h2⟩
theorem core_nm {i : Nat} {v : V} {Q : SG → Hp → Prop} (h : tG K (.nm i) v σ H Q) : gName i v σ H Q := by
  obtain ⟨F, d, r, r', wd, hd, he, q⟩ := h
  simp only [asgT] at he
  split at he
  · rename_i hi
    cases he
    exact q _ (wd.put hi hd) (fun j hj => List.getElem?_set_ne (by simpa [Tg.st, eq_comm] using hj)) fun a k => own_put (x := .fr d) (fun _ => nofun) k
  · cases he
theorem core_tupn {vs : List V} {Q : SG → Hp → Prop} (h : tGs K .tupn vs σ H Q) : gNil vs σ H Q := by
  obtain ⟨F, ds, r, r', wd, hd, he, q⟩ := h
  cases ds with
  | nil =>
    cases he
    unfold RpA at hd
    exact ⟨hd, q σ wd (fun _ _ => rfl) fun _ k => k⟩
  | cons d ds => cases he
theorem core_gs {a b : Tg} {vs : List V} {Q : SG → Hp → Prop} (h : tGs K (.tup a b) vs σ H Q) : gCons (tG K a) (tGs K b) vs σ H Q := by
  obtain ⟨F, ds, r, r', wd, hd, he, q⟩ := h
  cases ds with
  | nil => cases he
  | cons d ds =>
    unfold RpA at hd
    obtain ⟨v, t, rfl, hd, hds⟩ := hd
    simp only [asgT] at he
    split at he
    · rename_i r1 h1
      refine ⟨v, t, rfl, F, d, r, r1, wd, hd, h1, fun σ1 w1 ag1 s1 => ⟨F, ds, r1, r', w1, hds, he, fun σ2 w2 ag2 s2 => ?_⟩⟩
      refine q σ2 w2 (fun j hj => ?_) fun c k => s1 c (s2 c k)
      simp only [Tg.st, List.mem_append, not_or] at hj
      rw [ag2 j hj.2, ag1 j hj.1]
    · cases he
theorem core_tupG {a b : Tg} {n : Nat} {v : V} {Q : SG → Hp → Prop} (hn : ∀ ds r r', asgT (.tup a b) (.tuple ds) r = some r' → ds.length = n) (h : tG K (.tup a b) v σ H Q) : gTup K n (tGs K (.tup a b)) v σ H Q := by
  obtain ⟨F, d, r, r', wd, hd, he, q⟩ := h
  cases d with
  | tuple ds =>
    unfold Rp at hd
    obtain ⟨p, vs, rfl, sq, ra⟩ := hd
    exact ⟨p, vs, rfl, SqT.mono wd.le sq, by rw [← ra.len]; exact hn ds r r' he, F, ds, r, r', wd, ra, he, q⟩
  | _ => simp [asgT] at he

/-! ### what is walked -/
/-- the items, as long as what is out of reach stays -/
def Wk (K : PySem.W.Frag) (O : Addr → Prop) (F H : Hp) (xs : List PyData) (J : It) : Prop := ∀ F2 H2, Fr O F H F2 H2 → Same F2 H2 →
  (∀ i : Nat, xs.length ≤ i → J.stop i H2) ∧ ∀ (i : Nat) (d : PyData), xs[i]? = some d → J.go i H2 ∧ ∀ v H3, J.yld i H2 v H3 → ∃ F3, Fr noO F2 H2 F3 H3 ∧ Same F3 H3 ∧ Rp K F3 d v
def tI (C : Call) (K : PySem.W.Frag) (it : Itr) : TI := fun σ H R => ∃ F r xs hs r', Wd K F H r σ ∧ evI C it r = some (xs, hs, r') ∧
  ∀ J F' H', Fr (Own r σ) F H F' H' → Wd K F' H' r' σ → (∀ a, Own r' σ a → Own r σ a) → (∀ j ∈ hs, ∃ d, r'[j]? = some (Sl.ow d)) → Wk K (Own (hide r' hs) σ) F' H' xs J → R J H'
theorem seqL_keep {w : Sl} {v : V} {xs : List PyData} {hs : List Nat} (wd : Wd K F H r σ) (q : RpV K F H r σ w v) (e : see r w = some (.list xs)) (hh : ∀ i ∈ ownLk r [w], i ∈ hs) :
    ∃ a vs, v = .ref a ∧ SqL K H a vs ∧ RpA K F xs vs ∧ ∀ F2 H2, Fr (Own (hide r hs) σ) F H F2 H2 → Same F2 H2 → SqL K H2 a vs := by
  have frz : Rp K F (.list xs) v → ∃ a vs, v = .ref a ∧ SqL K H a vs ∧ RpA K F xs vs ∧ ∀ F2 H2, Fr (Own (hide r hs) σ) F H F2 H2 → Same F2 H2 → SqL K H2 a vs := fun q => by
    unfold Rp at q
    obtain ⟨a, vs, rfl, s, z⟩ := q
    exact ⟨a, vs, rfl, SqL.mono wd.le s, z, fun F2 H2 f le => SqL.mono le (SqL.mono f.ff s)⟩
  have own : ∀ {a : Addr}, OwnAt K F H (.list xs) a → ¬ Own (hide r hs) σ a → ∃ b vs, V.ref a = .ref b ∧ SqL K H b vs ∧ RpA K F xs vs ∧ ∀ F2 H2, Fr (Own (hide r hs) σ) F H F2 H2 → Same F2 H2 → SqL K H2 b vs := fun {a} o n => by
    obtain ⟨_, vs, z1, z2⟩ := o
    exact ⟨a, vs, rfl, .inl (.inl z1), z2, fun F2 H2 f le => .inl (.inl (f.hh a _ z1 n))⟩
  cases w with
  | no => exact q.elim
  | fr x => cases e; exact frz q
  | ow x =>
    cases e
    obtain ⟨a, rfl, o, n⟩ := q
    exact own o fun k => n (own_hide k)
  | ln i => cases e
  | lk i =>
    simp only [see] at e
    cases h : r[i]? with
    | none => rw [h] at e; cases e
    | some x =>
      rw [h] at e
      have z := wd.sl i x h
      cases x with
      | fr y =>
        cases e
        obtain ⟨u, e1, z⟩ := z
        rw [show σ[i]? = some (some v) from q] at e1
        cases e1
        exact frz z
      | ow y =>
        cases e
        obtain ⟨u, e1, z⟩ := z
        rw [show σ[i]? = some (some v) from q] at e1
        cases e1
        refine own z fun k => ?_
        obtain ⟨j, d, g1, g2⟩ := k
        rcases hide_get g1 with ⟨_, e⟩ | ⟨nj, e⟩
        · cases e
        · have := wd.inj i j _ d u h e q g2
          subst this
          exact nj (hh i (by simp [ownLk, h]))
      | _ => cases e
theorem seqT_keep {w : Sl} {v : V} {xs : List PyData} (wd : Wd K F H r σ) (q : RpV K F H r σ w v) (e : see r w = some (.tuple xs)) :
    ∃ a vs, v = .ref a ∧ RpA K F xs vs ∧ ∀ F2 H2, Same F F2 → Same F2 H2 → SqT K H2 a vs := by
  obtain ⟨a, vs, rfl, s, z⟩ := (see_ok wd q e).tup
  exact ⟨a, vs, rfl, z, fun F2 H2 f le => SqT.mono le (SqT.mono f s)⟩
theorem ownLk_cons {w : Sl} {ws : List Sl} {i : Nat} (h : i ∈ ownLk r [w]) : i ∈ ownLk r (w :: ws) := by
  cases w with
  | lk k =>
    simp only [ownLk] at h ⊢
    split at h
    · have : i = k := by simpa using h
      subst this
      exact List.mem_cons_self
    · simp at h
  | _ => simp [ownLk] at h
theorem ownLk_tail {w : Sl} {ws : List Sl} {i : Nat} (h : i ∈ ownLk r ws) : i ∈ ownLk r (w :: ws) := by
  cases w with
  | lk k =>
    simp only [ownLk]
    split
    · exact List.mem_cons_of_mem _ h
    · exact h
  | _ => simpa [ownLk] using h
/-- all yields are the heap's own values -/
theorem wk_list {O : Addr → Prop} {a : Addr} {xs : List PyData} {vs : List V} (ra : RpA K F xs vs) (h : ∀ F2 H2, Fr O F H F2 H2 → Same F2 H2 → SqL K H2 a vs) : Wk K O F H xs (Itl K a) := by
  intro F2 H2 f le
  have s := h F2 H2 f le
  refine ⟨fun i hi => ⟨vs, s, by rw [← ra.len]; exact hi⟩, fun i d hd => ?_⟩
  obtain ⟨v, hv, rv⟩ := ra.at hd
  refine ⟨⟨vs, v, s, hv⟩, fun x H3 ⟨e, y⟩ => ?_⟩
  subst e
  have := y vs s
  rw [hv] at this
  cases this
  exact ⟨F2, Fr.refl, le, Rp.mono f.ff _ _ rv⟩
theorem wk_tup {O : Addr → Prop} {a : Addr} {xs : List PyData} {vs : List V} (ra : RpA K F xs vs) (h : ∀ F2 H2, Same F F2 → Same F2 H2 → SqT K H2 a vs) : Wk K O F H xs (Itt K a) := by
  intro F2 H2 f le
  have s := h F2 H2 f.ff le
  refine ⟨fun i hi => ⟨vs, s, by rw [← ra.len]; exact hi⟩, fun i d hd => ?_⟩
  obtain ⟨v, hv, rv⟩ := ra.at hd
  refine ⟨⟨vs, v, s, hv⟩, fun x H3 ⟨e, y⟩ => ?_⟩
  subst e
  have := y vs s
  rw [hv] at this
  cases this
  exact ⟨F2, Fr.refl, le, Rp.mono f.ff _ _ rv⟩
theorem core_ov {e : Ex} {R : It → Hp → Prop} (h : tI C K (.ov e) σ H R) : iList K (tE C K e) σ H R ∨ iTup K (tE C K e) σ H R := by
  obtain ⟨F, r, xs, hs, r', wd, he, q⟩ := h
  simp only [evI] at he
  split at he
  · rename_i w r1 h1
    split at he
    · rename_i d h2
      split at he
      · rename_i ys h3
        simp only [Option.some.injEq, Prod.mk.injEq] at he
        obtain ⟨rfl, rfl, rfl⟩ := he
        have hO : ∀ j ∈ ownLk r1 [w], ∃ d, r1[j]? = some (Sl.ow d) := fun j hj => of_ownLk hj
        unfold itemsOf at h3
        split at h3
        · cases h3
          left
          refine ⟨F, r, w, r1, wd, h1, fun v F1 H1 p => ?_⟩
          obtain ⟨a, vs, rfl, s, ra, kp⟩ := seqL_keep (hs := ownLk r1 [w]) p.wd p.rp h2 fun _ h => h
          exact ⟨a, rfl, ⟨vs, s⟩, q _ F1 H1 p.fr p.wd p.sub hO (wk_list ra kp)⟩
        · cases h3
          right
          refine ⟨F, r, w, r1, wd, h1, fun v F1 H1 p => ?_⟩
          obtain ⟨a, vs, rfl, ra, kp⟩ := seqT_keep p.wd p.rp h2
          exact ⟨a, rfl, ⟨vs, kp F1 H1 (Same.refl _) p.wd.le⟩, q _ F1 H1 p.fr p.wd p.sub hO (wk_tup ra kp)⟩
        · cases h3
      · cases he
    · cases he
  · cases he
theorem wk_range {O : Addr → Prop} {lo : Int} {n : Nat} {xs : List PyData} (e : xs = (List.range n).map fun (i : Nat) => PyData.int (lo + (i : Int))) : Wk K O F H xs (L2.Itr lo n) := by
  subst e
  intro F2 H2 f le
  refine ⟨fun i hi => (show n ≤ i by simpa using hi), fun i d hd => ?_⟩
  rw [List.getElem?_map] at hd
  cases hr : (List.range n)[i]? with
  | none => rw [hr] at hd; cases hd
  | some k =>
    rw [hr] at hd
    cases hd
    obtain ⟨h1, h2⟩ := List.getElem?_eq_some_iff.mp hr
    simp at h1 h2
    subst h2
    refine ⟨h1, fun v H3 ⟨e1, e2⟩ => ?_⟩
    subst e1 e2
    exact ⟨F2, Fr.refl, le, rfl⟩
theorem new_tup {xs : List PyData} {vs : List V} {p : Addr} (le : Same F H) (q : RpA K F xs vs) (hp : H p = none) : ∃ F3, Fr noO F H F3 (upd H p (.tup vs)) ∧ Same F3 (upd H p (.tup vs)) ∧ Rp K F3 (.tuple xs) (.ref p) :=
  ⟨upd F p (.tup vs), Fr.refl.upF le hp, same_up2 le hp, p, vs, rfl, .inl (.inl upd_same), RpA.mono (same_up (le.free hp)) _ _ q⟩
theorem zip_at {xs ys : List PyData} {i : Nat} {d : PyData} (h : ((xs.zip ys).map fun p => PyData.tuple [p.1, p.2])[i]? = some d) : ∃ x y, xs[i]? = some x ∧ ys[i]? = some y ∧ d = .tuple [x, y] := by
  rw [List.getElem?_map] at h
  cases e : (xs.zip ys)[i]? with
  | none => rw [e] at h; cases h
  | some p =>
    rw [e] at h
    cases h
    obtain ⟨h1, h2⟩ := List.getElem?_zip_eq_some.mp e
    exact ⟨p.1, p.2, h1, h2, rfl⟩
theorem RpA.two {x y : PyData} {v w : V} (h1 : Rp K F x v) (h2 : Rp K F y w) : RpA K F [x, y] [v, w] := RpA.cons h1 (RpA.cons h2 RpA.nil)
theorem wk_zip {O : Addr → Prop} {a b : Addr} {xs ys : List PyData} {vs ws : List V} (ra : RpA K F xs vs) (rb : RpA K F ys ws) (ha : ∀ F2 H2, Fr O F H F2 H2 → Same F2 H2 → SqL K H2 a vs) (hb : ∀ F2 H2, Fr O F H F2 H2 → Same F2 H2 → SqL K H2 b ws) :
    Wk K O F H ((xs.zip ys).map fun p => .tuple [p.1, p.2]) (Itz K a b) := by
  intro F2 H2 f le
  have sa := ha F2 H2 f le
  have sb := hb F2 H2 f le
  have la := ra.len
  have lb := rb.len
  refine ⟨fun i hi => ⟨vs, ws, sa, sb, ?_⟩, fun i d hd => ?_⟩
  · rw [List.length_map, List.length_zip] at hi
    omega
  · obtain ⟨x, y, hx, hy, rfl⟩ := zip_at hd
    obtain ⟨v, hv, rv⟩ := ra.at hx
    obtain ⟨w, hw, rw'⟩ := rb.at hy
    refine ⟨⟨vs, ws, v, w, sa, sb, hv, hw⟩, fun u H3 ⟨T, v', w', e, hT, e3, y1, y2⟩ => ?_⟩
    subst e e3
    have z1 := y1 vs sa
    have z2 := y2 ws sb
    rw [hv] at z1
    rw [hw] at z2
    cases z1
    cases z2
    exact new_tup le (RpA.two (Rp.mono f.ff _ _ rv) (Rp.mono f.ff _ _ rw')) hT
theorem wk_zipT {O : Addr → Prop} {a b : Addr} {xs ys : List PyData} {vs ws : List V} (ra : RpA K F xs vs) (rb : RpA K F ys ws) (ha : ∀ F2 H2, Same F F2 → Same F2 H2 → SqT K H2 a vs) (hb : ∀ F2 H2, Same F F2 → Same F2 H2 → SqT K H2 b ws) :
    Wk K O F H ((xs.zip ys).map fun p => .tuple [p.1, p.2]) (RZ.ItzT K a b) := by
  intro F2 H2 f le
  have sa := ha F2 H2 f.ff le
  have sb := hb F2 H2 f.ff le
  have la := ra.len
  have lb := rb.len
  refine ⟨fun i hi => ⟨vs, ws, sa, sb, ?_⟩, fun i d hd => ?_⟩
  · rw [List.length_map, List.length_zip] at hi
    omega
  · obtain ⟨x, y, hx, hy, rfl⟩ := zip_at hd
    obtain ⟨v, hv, rv⟩ := ra.at hx
    obtain ⟨w, hw, rw'⟩ := rb.at hy
    refine ⟨⟨vs, ws, v, w, sa, sb, hv, hw⟩, fun u H3 ⟨T, v', w', e, hT, e3, y1, y2⟩ => ?_⟩
    subst e e3
    have z1 := y1 vs sa
    have z2 := y2 ws sb
    rw [hv] at z1
    rw [hw] at z2
    cases z1
    cases z2
    exact new_tup le (RpA.two (Rp.mono f.ff _ _ rv) (Rp.mono f.ff _ _ rw')) hT
theorem seeL_two {ws : List Sl} {d e : PyData} (h : seeL r ws = some [d, e]) : ∃ x y, ws = [x, y] ∧ see r x = some d ∧ see r y = some e := by
  cases ws with
  | nil => cases h
  | cons x ws =>
    unfold seeL at h
    split at h
    · rename_i d' l h1 h2
      cases h
      cases ws with
      | nil => cases h2
      | cons y ws =>
        unfold seeL at h2
        split at h2
        · rename_i e' l' h3 h4
          cases h2
          cases ws with
          | nil => exact ⟨x, y, rfl, h1, h3⟩
          | cons z ws =>
            unfold seeL at h4
            split at h4 <;> cases h4
        · cases h2
    · cases h
theorem RpVL.two {x y : Sl} {vs : List V} (h : RpVL K F H r σ [x, y] vs) : ∃ v w, vs = [v, w] ∧ RpV K F H r σ x v ∧ RpV K F H r σ y w := by
  obtain ⟨v, t, rfl, h1, w, t2, e, h2, h3⟩ := h
  cases h3
  subst e
  exact ⟨v, w, rfl, h1, h2⟩
theorem core_zp {es : Exs} {R : It → Hp → Prop} (h : tI C K (.zp es) σ H R) : RZ.iZipA K (tEs C K es) σ H R := by
  obtain ⟨F, r, xs, hs, r', wd, he, q⟩ := h
  simp only [evI] at he
  split at he
  · rename_i ws r1 h1
    split at he
    · rename_i ds h2
      split at he
      · rename_i ys h3
        simp only [Option.some.injEq, Prod.mk.injEq] at he
        obtain ⟨rfl, rfl, rfl⟩ := he
        have hO : ∀ j ∈ ownLk r1 ws, ∃ d, r1[j]? = some (Sl.ow d) := fun j hj => of_ownLk hj
        refine ⟨F, r, ws, r1, wd, h1, fun vs F1 H1 p => ?_⟩
        unfold zipD at h3
        split at h3
        · cases h3
          obtain ⟨x, y, rfl, e1, e2⟩ := seeL_two h2
          obtain ⟨v, w, rfl, p1, p2⟩ := p.rp.two
          obtain ⟨a, as, rfl, s1, ra, k1⟩ := seqL_keep (hs := ownLk r1 [x, y]) p.wd p1 e1 fun _ h => ownLk_cons h
          obtain ⟨b, bs, rfl, s2, rb, k2⟩ := seqL_keep (hs := ownLk r1 [x, y]) p.wd p2 e2 fun _ h => ownLk_tail h
          exact ⟨a, b, as, bs, rfl, .inl ⟨s1, s2, q _ F1 H1 p.fr p.wd p.sub hO (wk_zip ra rb k1 k2)⟩⟩
        · cases h3
          obtain ⟨x, y, rfl, e1, e2⟩ := seeL_two h2
          obtain ⟨v, w, rfl, p1, p2⟩ := p.rp.two
          obtain ⟨a, as, rfl, ra, k1⟩ := seqT_keep p.wd p1 e1
          obtain ⟨b, bs, rfl, rb, k2⟩ := seqT_keep p.wd p2 e2
          exact ⟨a, b, as, bs, rfl, .inr ⟨k1 F1 H1 (Same.refl _) p.wd.le, k2 F1 H1 (Same.refl _) p.wd.le, q _ F1 H1 p.fr p.wd p.sub hO (wk_zipT ra rb k1 k2)⟩⟩
        · cases h3
      · cases he
    · cases he
  · cases he
theorem enum_at : ∀ {xs : List PyData} {k : Int} {i : Nat} {d : PyData}, (enumFrom k xs)[i]? = some d → ∃ x, xs[i]? = some x ∧ d = .tuple [.int (k + i), x]
  | [], k, i, d, h => by simp [enumFrom] at h
  | x :: xs, k, 0, d, h => by
    simp [enumFrom] at h
    exact ⟨x, rfl, by simp [h.symm]⟩
  | x :: xs, k, i + 1, d, h => by
    obtain ⟨y, h1, h2⟩ := enum_at (xs := xs) (k := k + 1) (i := i) (by simpa [enumFrom] using h)
    refine ⟨y, by simpa using h1, ?_⟩
    rw [h2]
    congr 3
    omega
theorem enum_len : ∀ {xs : List PyData} {k : Int}, (enumFrom k xs).length = xs.length
  | [], k => rfl
  | x :: xs, k => by
    unfold enumFrom
    rw [List.length_cons, List.length_cons, enum_len]
theorem core_en {e : Ex} {R : It → Hp → Prop} (h : tI C K (.en e) σ H R) : iEnum K (tCons (tE C K e) tNil) σ H R := by
  obtain ⟨F, r, xs, hs, r', wd, he, q⟩ := h
  simp only [evI] at he
  split at he
  · rename_i w r1 h1
    split at he
    · rename_i d h2
      split at he
      · rename_i ys h3
        simp only [Option.some.injEq, Prod.mk.injEq] at he
        obtain ⟨rfl, rfl, rfl⟩ := he
        have hO : ∀ j ∈ ownLk r1 [w], ∃ d, r1[j]? = some (Sl.ow d) := fun j hj => of_ownLk hj
        refine ⟨F, r, w, r1, wd, h1, fun v F1 H1 p => ?_⟩
        unfold enumD at h3
        split at h3
        · rename_i ls
          cases h3
          obtain ⟨a, vs, rfl, s, ra, kp⟩ := seqL_keep (hs := ownLk r1 [w]) p.wd p.rp h2 fun _ h => h
          refine ⟨a, vs, rfl, s, q _ F1 H1 p.fr p.wd p.sub hO ?_⟩
          intro F2 H2 f le
          have sa := kp F2 H2 f le
          refine ⟨fun i hi => ⟨vs, sa, by rw [← ra.len]; rw [enum_len] at hi; exact hi⟩, fun i d hd => ?_⟩
          obtain ⟨x, hx, rfl⟩ := enum_at hd
          obtain ⟨v, hv, rv⟩ := ra.at hx
          refine ⟨⟨vs, v, sa, hv⟩, fun u H3 ⟨T, v', e, hT, e3, y1⟩ => ?_⟩
          subst e e3
          have z1 := y1 vs sa
          rw [hv] at z1
          cases z1
          rw [Int.zero_add]
          exact new_tup le (RpA.two rfl (Rp.mono f.ff _ _ rv)) hT
        · cases h3
      · cases he
    · cases he
  · cases he

theorem Wd.out {D : Addr} {o : HO} (w : Wd K F H r σ) (hF : F D = none) (n : ¬ Own r σ D) : Wd K F (upd H D o) r σ := by
  refine ⟨fun b u e => by rw [upd_ne (ne_of_none e hF)]; exact w.le b u e, w.len, fun i x h => ?_, w.inj⟩
  have q := w.sl i x h
  cases x with
  | no => trivial
  | fr d => exact q
  | ow d =>
    obtain ⟨a, e1, z, z1⟩ := q
    have na : a ≠ D := fun e => n ⟨i, d, h, e ▸ e1⟩
    refine ⟨a, e1, z, ?_⟩
    cases d with
    | list ys => obtain ⟨zs, y1, y2⟩ := z1; exact ⟨zs, by rw [upd_ne na]; exact y1, y2⟩
    | dict ys => obtain ⟨zs, y1, y2⟩ := z1; exact ⟨zs, by rw [upd_ne na]; exact y1, y2⟩
    | _ => exact z1.elim
  | lk k => exact q.elim
  | ln k => exact q.elim
theorem evEs_len {C : Call} : ∀ {es : Exs} {r r' : Env} {ws : List Sl}, evEs C es r = some (ws, r') → ws.length = es.len
  | .nil, r, r', ws, h => by
    simp only [evEs, Option.some.injEq, Prod.mk.injEq] at h
    rw [← h.1]
    rfl
  | .cons e es, r, r', ws, h => by
    simp only [evEs] at h
    split at h
    · split at h
      · rename_i h2
        simp only [Option.some.injEq, Prod.mk.injEq] at h
        rw [← h.1]
        show _ + 1 = es.len + 1
        rw [evEs_len h2]
      · cases h
    · cases h
theorem seeL_len : ∀ {ws : List Sl} {ds : List PyData}, seeL r ws = some ds → ds.length = ws.length
  | [], ds, h => by cases h; rfl
  | w :: ws, ds, h => by
    unfold seeL at h
    split at h
    · rename_i h1 h2
      cases h
      rw [List.length_cons, List.length_cons, seeL_len h2]
    · cases h
theorem core_rg1 {es : Exs} {R : It → Hp → Prop} (hl : es.len = 1) (h : tI C K (.rg es) σ H R) : iRng1 (tEs C K es) σ H R := by
  obtain ⟨F, r, xs, hs, r', wd, he, q⟩ := h
  simp only [evI] at he
  split at he
  · rename_i ws r1 h1
    split at he
    · rename_i ds h2
      split at he
      · rename_i ys h3
        simp only [Option.some.injEq, Prod.mk.injEq] at he
        obtain ⟨rfl, rfl, rfl⟩ := he
        have e1 := evEs_len h1
        have e2 := seeL_len h2
        unfold rangeD at h3
        split at h3
        · rename_i j
          split at h3
          · rename_i hj
            cases h3
            refine ⟨F, r, ws, r1, wd, h1, fun vs F1 H1 p => ?_⟩
            obtain ⟨v, rfl, hx⟩ := (seeL_ok p.wd p.rp h2).one
            obtain rfl := hx.int
            exact ⟨j, rfl, hj.1, hj.2, q _ F1 H1 p.fr p.wd p.sub (fun _ h => by simp at h) (wk_range (by simp))⟩
          · cases h3
        · simp at e2
          omega
        · cases h3
      · cases he
    · cases he
  · cases he
theorem core_rg2 {es : Exs} {R : It → Hp → Prop} (hl : es.len = 2) (h : tI C K (.rg es) σ H R) : iRng2 (tEs C K es) σ H R := by
  obtain ⟨F, r, xs, hs, r', wd, he, q⟩ := h
  simp only [evI] at he
  split at he
  · rename_i ws r1 h1
    split at he
    · rename_i ds h2
      split at he
      · rename_i ys h3
        simp only [Option.some.injEq, Prod.mk.injEq] at he
        obtain ⟨rfl, rfl, rfl⟩ := he
        have e1 := evEs_len h1
        have e2 := seeL_len h2
        unfold rangeD at h3
        split at h3
        · simp at e2
          omega
        · rename_i a b
          split at h3
          · rename_i hj
            cases h3
            refine ⟨F, r, ws, r1, wd, h1, fun vs F1 H1 p => ?_⟩
            obtain ⟨v, w, rfl, hx, hy⟩ := (seeL_ok p.wd p.rp h2).two
            obtain rfl := hx.int
            obtain rfl := hy.int
            exact ⟨a, b, rfl, hj, q _ F1 H1 p.fr p.wd p.sub (fun _ h => by simp at h) (wk_range rfl)⟩
          · cases h3
        · cases h3
      · cases he
    · cases he
  · cases he
end
end Bx

set_option Elab.async false
set_option linter.all false
set_option maxRecDepth 100000
set_option autoImplicit false
set_option maxHeartbeats 2000000
/-! List comprehensions. -/
namespace Bx
open PySem PySem.Spec PyProof.Rows L2

def lcF (C : Call) (t : Tg) (c e : Ex) (own : List Nat) : PyData → Env → Option (Option PyData × Env) := fun x r => match asgT t x (killS r own) with
  | some r2 => match evE C c r2 with
    | some (.fr (.bool true), r3) => match evE C e r3 with
      | some (w, r4) => match fz w with
        | some y => some (some y, killS r4 own)
        | none => none
      | none => none
    | some (.fr (.bool false), r3) => some (none, killS r3 own)
    | _ => none
  | none => none
theorem lc_inv {C : Call} {t : Tg} {c e : Ex} {own : List Nat} {x : PyData} {xs acc : List PyData} {r : Env} {q : List PyData × Env} (h : compL (lcF C t c e own) (x :: xs) acc r = some q) :
    ∃ ra, asgT t x (killS r own) = some ra ∧ ∃ b rb, evE C c ra = some (.fr (.bool b), rb) ∧
      ((b = true ∧ ∃ w rc dy, evE C e rb = some (w, rc) ∧ fz w = some dy ∧ acc.length < SZ ∧ compL (lcF C t c e own) xs (acc ++ [dy]) (killS rc own) = some q) ∨ (b = false ∧ compL (lcF C t c e own) xs acc (killS rb own) = some q)) := by
  unfold compL at h
  split at h
  · rename_i y r1 h1
    split at h
    · rename_i hz
      unfold lcF at h1
      split at h1
      · rename_i ra ha
        split at h1
        · rename_i rb hb
          split at h1
          · rename_i w rc hc
            split at h1
            · rename_i dy hd
              simp only [Option.some.injEq, Prod.mk.injEq] at h1
              obtain ⟨rfl, rfl⟩ := h1
              exact ⟨ra, ha, true, rb, hb, .inl ⟨rfl, w, rc, dy, hc, hd, hz, h⟩⟩
            · cases h1
          · cases h1
        · simp at h1
        · cases h1
      · cases h1
    · cases h
  · rename_i r1 h1
    unfold lcF at h1
    split at h1
    · rename_i ra ha
      split at h1
      · rename_i rb hb
        split at h1
        · split at h1
          · simp at h1
          · cases h1
        · cases h1
      · rename_i rb hb
        simp only [Option.some.injEq, Prod.mk.injEq, true_and] at h1
        subst h1
        exact ⟨ra, ha, false, rb, hb, .inr ⟨rfl, h⟩⟩
      · cases h1
    · cases h1
  · cases h
theorem asgT_len {t : Tg} : ∀ {d : PyData} {r r' : Env}, asgT t d r = some r' → r'.length = r.length := by
  induction t with
  | nm i =>
    intro d r r' h
    simp only [asgT] at h
    split at h
    · cases h
      rw [List.length_set]
    · cases h
  | tup a b iha ihb =>
    intro d r r' h
    cases d with
    | tuple ds =>
      cases ds with
      | nil => cases h
      | cons x xs =>
        simp only [asgT] at h
        split at h
        · rename_i r1 h1
          rw [ihb h, iha h1]
        · cases h
    | _ => cases h
  | tupn =>
    intro d r r' h
    cases d with
    | tuple ds =>
      cases ds with
      | nil => cases h; rfl
      | cons x xs => cases h
    | _ => cases h
theorem wipe_in {σ : SG} {j : Nat} : ∀ {vs : List Nat}, j ∈ vs → j < σ.length → (wipe σ vs)[j]? = some none
  | [], h, _ => by simp at h
  | v :: vs, h, hl => by
    unfold wipe
    by_cases e : v = j
    · subst e
      rw [List.getElem?_set_self (by rw [wipe_length]; exact hl)]
    · rw [List.getElem?_set_ne e]
      exact wipe_in (by rcases List.mem_cons.mp h with z | z; exact (e z.symm).elim; exact z) hl
theorem wipe_same {σ σ2 : SG} {own : List Nat} (hl : σ2.length = σ.length) (h : ∀ j, j ∉ own → σ2[j]? = σ[j]?) : wipe σ2 own = wipe σ own := by
  apply List.ext_getElem?
  intro j
  by_cases hj : j ∈ own
  · by_cases hb : j < σ.length
    · rw [wipe_in hj hb, wipe_in hj (by omega)]
    · rw [List.getElem?_eq_none (by rw [wipe_length]; omega), List.getElem?_eq_none (by rw [wipe_length]; omega)]
  · rw [wipe_out hj, wipe_out hj, h j hj]
section
variable {C : Call} {K : PySem.W.Frag} {F H F1 H1 F2 H2 : Hp} {r r1 r2 : Env} {σ σ1 : SG}
theorem Fr.out {O : Addr → Prop} {D : Addr} {o : HO} (f : Fr O F H F1 H1) (h : H D = none) : Fr O F H F1 (upd H1 D o) :=
  ⟨f.ff, f.new, fun c u e n => by rw [upd_ne (ne_of_none e h)]; exact f.hh c u e n⟩
/-- what is new stays as it is -/
theorem Fr.at {O : Addr → Prop} {D : Addr} {o : HO} (f : Fr O F H F1 H1) (hF : F D = none) (h : H D = some o) (n : ¬ O D) : F1 D = none ∧ H1 D = some o := by
  refine ⟨?_, f.hh D o h n⟩
  cases k : F1 D with
  | none => rfl
  | some u =>
    rcases f.new D u k with z | ⟨_, z⟩
    · rw [hF] at z; cases z
    · rcases z with z | z
      · exact (n z).elim
      · rw [h] at z; cases z
theorem core_lc {t : Tg} {it : Itr} {c e : Ex} {own : List Nat} {tt : TT} {Q : VK} (hst : ∀ i ∈ t.st, i ∈ own) (htt : ∀ σ H Q, tT C K c σ H Q → tt σ H Q) (h : tE C K (.lc t it c e own) σ H Q) : tLc (tI C K it) (tG K t) tt (tE C K e) own σ H Q := by
  obtain ⟨F, r, w, r', wd, he, q⟩ := h
  simp only [evE] at he
  split at he
  · rename_i xs hs r1 hi
    split at he
    · rename_i ys r5 hc
      simp only [Option.some.injEq, Prod.mk.injEq] at he
      obtain ⟨rfl, rfl⟩ := he
      have hc : compL (lcF C t c e own) xs [] (killS (hide r1 hs) own) = some (ys, r5) := hc
      refine ⟨F, r, xs, hs, r1, wd, hi, fun J F1 H1 f1 w1 s1 hO wk D hD => ?_⟩
      let P : Addr → Prop := Own (hide r1 hs) σ
      have PD : ¬ P D := fun k => by
        obtain ⟨_, u, hu⟩ := w1.own (own_hide k)
        rw [hD] at hu; cases hu
      let W : Nat → Nat → Hp → Prop := fun i m H2 => m = xs.length - i ∧ i ≤ xs.length ∧ ∃ F2 r2 acc accV, Fr P F1 H1 F2 H2 ∧ Wd K F2 H2 r2 (wipe σ own) ∧ (∀ a, Own r2 (wipe σ own) a → P a) ∧ F2 D = none ∧ H2 D = some (.lst accV) ∧ RpA K F2 acc accV ∧ (∀ j ∈ own, ∀ x : Sl, r2[j]? = some x → x = .no) ∧
        compL (lcF C t c e own) (xs.drop i) acc r2 = some (ys, r5)
      refine ⟨W, ⟨xs.length, rfl, Nat.zero_le _, F1, _, [], [], Fr.refl.out hD, ?_, fun a k => ?_, w1.le.free hD, upd_same, RpA.nil, fun j hj x h => ?_, hc⟩, ?_⟩
      · have w2 : Wd K F1 H1 (killS (hide r1 hs) own) (wipe σ own) := by
          rw [kill_hide]
          exact ((w1.hide hs).hide own).agree (wipe_length ..) fun j x h n => hide_wipe j x h n
        refine w2.out (w1.le.free hD) fun k => PD ?_
        rw [kill_hide] at k
        exact own_hide (own_agree (fun j x h n => hide_wipe j x h n) k)
      · rw [kill_hide] at k
        exact own_hide (own_agree (fun j x h n => hide_wipe j x h n) k)
      · rw [kill_hide] at h
        exact hide_in hj h
      · rintro i m H2 ⟨rfl, hil, F2, r2, acc, accV, f2, w2, s2, hFD, hHD, ra, hno, hcc⟩
        by_cases hlt : i < xs.length
        · right
          rw [List.drop_eq_getElem_cons hlt] at hcc
          obtain ⟨ra1, ha1, b, rb, hb, hrest⟩ := lc_inv hcc
          have hwk := (wk F2 H2 f2 w2.le).2 i xs[i] (List.getElem?_eq_getElem hlt)
          refine ⟨hwk.1, fun H' => W (i + 1) (xs.length - (i + 1)) H', fun H' k => ⟨_, by omega, k⟩, fun v H3 hy => ?_⟩
          obtain ⟨F3, f3, le3, rv⟩ := hwk.2 v H3 hy
          have w3 : Wd K F3 H3 (killS r2 own) (wipe σ own) := by rw [kill_hide]; exact (w2.go f3 le3).hide own
          have d3 := f3.at hFD hHD id
          refine ⟨F3, xs[i], killS r2 own, ra1, w3, rv, ha1, fun σ2 w4 ag4 s4 => ?_⟩
          have hl2 : σ2.length = (wipe σ own).length := by rw [← w4.len, asgT_len ha1, w3.len]
          have agO : ∀ j, j ∉ own → σ2[j]? = (wipe σ own)[j]? := fun j hj => ag4 j fun hm => hj (hst j hm)
          refine ⟨?_, htt _ _ _ ⟨F3, ra1, b, rb, w4, hb, fun F4 H4 f5 w5 s5 => ?_⟩⟩
          · refine wipe_same (hl2.trans (wipe_length ..)) fun j hj => ?_
            rw [agO j hj, wipe_out hj]
          -- back from a turn
          have sub0 : ∀ a, Own ra1 σ2 a → Own r2 (wipe σ own) a := fun a k => by
            have := s4 a k
            rw [kill_hide] at this
            exact own_hide this
          have notD : ¬ Own r2 (wipe σ own) D := fun k => PD (s2 D k)
          have fin : ∀ {F' H' : Hp} {r' : Env}, Wd K F' H' r' σ2 → (∀ a, Own r' σ2 a → Own ra1 σ2 a) → Wd K F' H' (killS r' own) (wipe σ own) ∧ ∀ a, Own (killS r' own) (wipe σ own) a → Own r2 (wipe σ own) a := fun {F' H' r'} w' s' => by
            have ag : ∀ (j : Nat) (x : Sl), (hide r' own)[j]? = some x → x ≠ .no → (wipe σ own)[j]? = σ2[j]? := fun j x h n => by
              rcases hide_get h with ⟨_, e⟩ | ⟨hj, _⟩
              · exact (n e).elim
              · exact (agO j hj).symm
            rw [kill_hide]
            exact ⟨(w'.hide own).agree hl2.symm ag, fun a k => sub0 a (s' a (own_hide (own_agree ag k)))⟩
          have f25 : Fr (Own r2 (wipe σ own)) F2 H2 F4 H4 := (Fr.weak f3 fun _ z => z.elim).trans f5 fun a k => .inl (sub0 a k)
          have d4 := f25.at hFD hHD notD
          rcases hrest with ⟨rfl, w, rc, dy, hev, hfz, hz, hcl⟩ | ⟨rfl, hcl⟩
          · show tE C K e σ2 H4 _
            refine ⟨F4, rb, w, rc, w5, hev, fun y F5 H5 p => ?_⟩
            obtain ⟨F6, f6, w6, ry, sf⟩ := freeze1 p hfz
            have f26 : Fr (Own r2 (wipe σ own)) F2 H2 F6 H5 := f25.trans f6 fun a k => .inl (sub0 a (s5 a k))
            have d6 := f26.at hFD hHD notD
            obtain ⟨w7, s7⟩ := fin w6 fun a k => s5 a (p.sub a k)
            refine ⟨accV, d6.2, by rw [← ra.len, ← SZ_eq]; exact hz, rfl, hlt, F6, _, acc ++ [dy], accV ++ [y], (f2.trans f26 fun a k => .inl (s2 a k)).out hD, ?_, fun a k => s2 a (s7 a k), d6.1, upd_same, ?_, fun j hj x h => ?_, hcl⟩
            · exact w7.out d6.1 fun k => notD (s7 D k)
            · exact (RpA.mono f26.ff _ _ ra).app (RpA.cons ry RpA.nil)
            · rw [kill_hide] at h
              exact hide_in hj h
          · show W (i + 1) (xs.length - (i + 1)) H4
            obtain ⟨w7, s7⟩ := fin w5 s5
            exact ⟨rfl, hlt, F4, _, acc, accV, f2.trans f25 fun a k => .inl (s2 a k), w7, fun a k => s2 a (s7 a k), d4.1, d4.2, RpA.mono f25.ff _ _ ra, fun j hj x h => by rw [kill_hide] at h; exact hide_in hj h, hcl⟩
        · left
          have e : i = xs.length := by omega
          subst e
          refine ⟨(wk F2 H2 f2 w2.le).1 _ (Nat.le_refl _), ?_⟩
          rw [List.drop_length] at hcc
          simp only [compL, Option.some.injEq, Prod.mk.injEq] at hcc
          obtain ⟨rfl, rfl⟩ := hcc
          have ag : ∀ (j : Nat) (x : Sl), r2[j]? = some x → x ≠ .no → σ[j]? = (wipe σ own)[j]? := fun j x h n => by
            by_cases hj : j ∈ own
            · exact (n (hno j hj x h)).elim
            · exact (wipe_out hj).symm
          have w3 : Wd K F2 H2 r2 σ := w2.agree (wipe_length ..).symm ag
          obtain ⟨w4, s4⟩ := Wd.back (P := P) w1 w3 f2 hO (fun a k => s2 a (own_agree ag k)) (fun a k => .inl k) fun _ _ => rfl
          have s5 : ∀ a, Own (back r1 r2 hs) σ a → Own r1 σ a := fun a k => by
            rcases s4 a k with k | k
            · exact own_hide (s2 a (own_agree ag k))
            · exact k.1
          refine q _ F2 H2 ⟨f1.trans f2 fun a k => .inl (s1 a (own_hide k)), w4, fun a k => s1 a (s5 a k), ⟨D, rfl, ⟨hFD, accV, hHD, ra⟩, fun k => ?_⟩, fun a e => ?_⟩
          · obtain ⟨_, u, hu⟩ := w1.own (s5 D k)
            rw [hD] at hu; cases hu
          · cases e
            by_cases no : Own r σ D
            · exact .inr no
            · left
              cases k : H D with
              | none => rfl
              | some u => rw [f1.hh D u k no] at hD; cases hD
    · cases he
  · cases he
end
end Bx

set_option Elab.async false
set_option linter.all false
set_option maxRecDepth 100000
set_option autoImplicit false
set_option maxHeartbeats 4000000
/-! Every expression. -/
namespace Bx
open PySem PySem.Spec PyProof.Rows L2

section
variable {G : Gm} {C : Call} {k : Nat} {X : Cx} {own : Scope}
theorem notSet_fold {iter : Expr} {env : PySem.Env} (h : notSet iter = true) : ∀ x, foldedSetIterable iter env x = pure x := by
  intro x
  cases iter <;> first | rfl | cases h
theorem notSet_mark {op : CmpOp} {y : Expr} (h : notSet y = true) : behindInMarks op y = false := by
  cases y <;> first | rfl | cases h
theorem plain_ix {y : Expr} (h : isSlice y = false) : PlainIx y := by
  intro o i
  cases y <;> first | rfl | cases h
theorem plain_test {e : Expr} {env : PySem.Env} (h : plainT e = true) : ∀ whole, isTrue e env whole = (do let v ← whole; standAt e.pos; holding [v] (truthy v)) := by
  intro w
  cases e with
  | UnaryOp op x p => cases op <;> first | rfl | cases h
  | _ => first | rfl | cases h
theorem mEs_len {N : List Str} {sc : Scope} : ∀ {es : Exs} {as : List Expr}, mEs N G sc es as = true → es.len = as.length
  | .nil, [], _ => rfl
  | .nil, _ :: _, h => by simp [mEs] at h
  | .cons _ _, [], h => by simp [mEs] at h
  | .cons e es, a :: as, h => by
    simp only [mEs, Bool.and_eq_true] at h
    exact congrArg Nat.succ (mEs_len h.2)
theorem boot_bt (b : Bt) : bootBuiltins (btN b) = some (btV b) := by cases b <;> decide +kernel
theorem btN_ne (b : Bt) : btN b ≠ "__name__" ∧ (btN b == ("__debug__" : Str)) = false := by cases b <;> decide +kernel
theorem boot_ty (t : Ty) : bootBuiltins (tyS t) = some (.type (tyN t)) := by cases t <;> decide +kernel
theorem tyS_ne (t : Ty) : tyS t ≠ "__name__" ∧ (tyS t == ("__debug__" : Str)) = false := by cases t <;> decide +kernel
theorem boot_isi : bootBuiltins "isinstance" = some (.builtin "isinstance") := by decide +kernel
theorem ty_mu (m : Mu) : typeOf (.builtin (muId m)) = pure (.type "method_descriptor") := by cases m <;> rfl
theorem slot_mu (m : Mu) : Slot "list" (muN m) (muId m) := by
  cases m
  · exact PySem.F.slot_list_append
  · exact PySem.F.slot_list_extend
  · exact PySem.F.slot_list_pop
  · exact PySem.F.slot_list_insert
  · exact PySem.F.slot_list_reverse
  · exact PySem.F.slot_list_clear
theorem sK {c : Cn} (g : Gd G C k X own) {ae : Expr} (h : mK G X.env.scope c ae = true) : PE X ae (tC c.v) := by
  unfold mK at h
  split at h
  · obtain rfl := of_decide_eq_true h
    exact pe_non
  · obtain rfl := of_decide_eq_true h
    exact pe_bl
  · obtain rfl := of_decide_eq_true h
    exact pe_int
  · obtain rfl := of_decide_eq_true h
    exact pe_str
  · simp only [Bool.and_eq_true, decide_eq_true_eq] at h
    obtain ⟨u, h1, h2⟩ := g.cons _ _ h.1.1
    exact pe_glob (gloB_of h.1.2) h1 h2 (nmOk_of h.2).1
  · cases h
theorem sTy (g : Gd G C k X own) {t : Ty} {ae : Expr} (h : mTy G X.env.scope t ae = true) : PE X ae (tC (.ty (tyN t))) := by
  unfold mTy at h
  split at h
  · simp only [Bool.and_eq_true, decide_eq_true_eq] at h
    obtain ⟨⟨rfl, h2⟩, h3⟩ := h
    exact pe_bltn (gloB_of h2) (g.blts _ h3) (boot_ty t) rfl (tyS_ne t).1 (tyS_ne t).2
  · cases h
def tTys : List Ty → TA := fun ts σ H Q => Q (ts.map fun t => V.ty (tyN t)) H
theorem sTys (g : Gd G C k X own) : ∀ {ts : List Ty} {as : List Expr}, noStars as = true → mTys G X.env.scope ts as = true → PA X as (tTys ts)
  | [], [], _, _ => PA.imp pa_nil fun _ _ _ q => q
  | t :: ts, e :: es, hn, h => by
    unfold mTys at h
    simp only [Bool.and_eq_true] at h
    obtain ⟨n1, n2⟩ := noStars_tail hn
    exact PA.imp (pa_cons (sTy g h.1) (sTys g n2 h.2) (star_cons n1)) fun _ _ _ q => q
  | [], _ :: _, _, h => by cases h
  | _ :: _, [], _, h => by cases h
theorem pairs_ty : ∀ ts : List Ty, Paired ClsV (ts.map fun t => V.ty (tyN t)) (ts.map fun t => Value.type (tyN t))
  | [] => .nil
  | t :: ts => .cons (.ty _) (pairs_ty ts)
theorem core_callB {b : Bt} (g : Gd G C k X own) {e : Expr} {es : List Expr} {t : TA} {p pos : Pos} (hb : btV b = .builtin (match btV b with | .builtin id => id | _ => "") ∨ btV b = .type (match btV b with | .type id => id | _ => ""))
    (hg : gloB X.env.scope (btN b) = true) (hl : G.blts.contains (btN b) = true) (ha : PA X (e :: es) t) (hn : noStars (e :: es) = true) : PE X (.Call (.Name (btN b) p) (e :: es) [] pos) (tCB (rBt X.K b) t) := by
  obtain ⟨n1, n2⟩ := noStars_tail hn
  have hc := bt_ok (X := X) b g.calm g.gd g.units
  have hv := boot_bt b
  rcases hb with hb | hb
  · rw [hb] at hc hv
    exact pe_callB hc (gloB_of hg) (g.blts _ hl) hv ha (btN_ne b).1 (btN_ne b).2 (star_cons n1) (star_none n2)
  · rw [hb] at hc hv
    exact pe_callTy hc (gloB_of hg) (g.blts _ hl) hv ha (btN_ne b).1 (btN_ne b).2 (star_cons n1) (star_none n2)
theorem btV_kind (b : Bt) : btV b = .builtin (match btV b with | .builtin id => id | _ => "") ∨ btV b = .type (match btV b with | .type id => id | _ => "") := by cases b <;> first | exact .inl rfl | exact .inr rfl
theorem PI.orr {tg e : Expr} {t t' : TI} (h : PI X tg e t) (h' : PI X tg e t') : PI X tg e (fun σ H R => t σ H R ∨ t' σ H R) := ⟨fun pins s σ H R I q => q.elim (h.run pins s σ H R I) (h'.run pins s σ H R I)⟩
theorem isTup_of {tg : Expr} (h : isTupE tg = true) : ∃ es kk p, tg = .Tuple es kk p := by
  cases tg <;> first | exact ⟨_, _, _, rfl⟩ | cases h

/-! ### targets -/
theorem each_len {env : PySem.Env} : ∀ es : List Expr, (assignEach es env).length = es.length
  | [] => rfl
  | e :: es => by
    cases e <;> exact congrArg Nat.succ (each_len es)
theorem each_none {env : PySem.Env} : ∀ {es : List Expr}, noStars es = true → (assignEach es env).findIdx? (·.1) = none
  | [], _ => rfl
  | e :: es, h => by
    obtain ⟨n1, n2⟩ := noStars_tail h
    have : assignEach (e :: es) env = (false, assign e env) :: assignEach es env := by cases e <;> first | rfl | cases n1
    rw [this, List.findIdx?_cons]
    simp [each_none n2]
theorem mT_stars {N : List Str} {t : Tg} : ∀ {es : List Expr}, mT N own t (.inr es) = true → noStars es = true := by
  induction t with
  | nm i => intro es h; simp [mT] at h
  | tup a b iha ihb =>
    intro es h
    cases es with
    | nil => simp [mT] at h
    | cons e es =>
      simp only [mT, Bool.and_eq_true] at h
      unfold noStars
      rw [h.1.1, ihb h.2]
      rfl
  | tupn =>
    intro es h
    cases es with
    | nil => rfl
    | cons e es => simp [mT] at h
theorem mT_len {N : List Str} {t : Tg} : ∀ {es : List Expr} {ds : List PyData} {r r' : Env}, mT N own t (.inr es) = true → asgT t (.tuple ds) r = some r' → ds.length = es.length := by
  induction t with
  | nm i => intro es ds r r' h; simp [mT] at h
  | tup a b iha ihb =>
    intro es ds r r' h q
    cases es with
    | nil => simp [mT] at h
    | cons e es =>
      simp only [mT, Bool.and_eq_true] at h
      cases ds with
      | nil => cases q
      | cons d ds =>
        simp only [asgT] at q
        split at q
        · rw [List.length_cons, List.length_cons, ihb h.2 q]
        · cases q
  | tupn =>
    intro es ds r r' h q
    cases es with
    | nil =>
      cases ds with
      | nil => rfl
      | cons d ds => cases q
    | cons e es => simp [mT] at h
theorem sG (g : Gd G C k X own) (t : Tg) : (∀ ae, mT X.N own t (.inl ae) = true → PG X ae (tG X.K t)) ∧ (∀ es, mT X.N own t (.inr es) = true → PGs X es (tGs X.K t)) := by
  induction t with
  | nm i =>
    refine ⟨fun ae h => ?_, fun es h => by simp [mT] at h⟩
    cases ae with
    | Name x pos =>
      simp only [mT, Bool.and_eq_true, decide_eq_true_eq] at h
      obtain ⟨h1, h2⟩ := g.sto x (storB_of h.2)
      exact PG.imp (pg_name g.nd h.1 h1 h2) fun v σ H Q q => core_nm q
    | _ => simp [mT] at h
  | tup a b iha ihb =>
    have tail : ∀ e es, notStar e = true → mT X.N own a (.inl e) = true → mT X.N own b (.inr es) = true → PGs X (e :: es) (tGs X.K (.tup a b)) := fun e es h1 h2 h3 => by
      have z := pgs_cons (iha.1 e h2) (ihb.2 es h3) (by cases e <;> first | rfl | cases h1)
      exact ⟨fun pins s σ H vs us Q I r q => z.run pins s σ H vs us Q I r (core_gs q)⟩
    refine ⟨fun ae h => ?_, fun es h => ?_⟩
    · cases ae with
      | Tuple es kk pos =>
        cases es with
        | nil => simp [mT] at h
        | cons e es =>
          simp only [mT, Bool.and_eq_true] at h
          have hi : mT X.N own (.tup a b) (.inr (e :: es)) = true := by simp only [mT, Bool.and_eq_true]; exact h
          exact PG.imp (pg_tup g.calm (tail e es h.1.1 h.1.2 h.2) (each_len _) (each_none (mT_stars hi))) fun v σ H Q q => core_tupG (fun ds r r' z => mT_len hi z) q
      | _ => simp [mT] at h
    · cases es with
      | nil => simp [mT] at h
      | cons e es =>
        simp only [mT, Bool.and_eq_true] at h
        exact tail e es h.1.1 h.1.2 h.2
  | tupn =>
    refine ⟨fun ae h => by cases ae <;> simp [mT] at h, fun es h => ?_⟩
    cases es with
    | nil => exact ⟨fun pins s σ H vs us Q I r q => pgs_nil.run pins s σ H vs us Q I r (core_tupn q)⟩
    | cons e es => simp [mT] at h
end

theorem yes_of {C : Call} {K : PySem.W.Frag} {c : Ex} {σ : SG} {H : Hp} {Q : Bool → Hp → Prop} (h : isYes c = true) (q : tT C K c σ H Q) : Q true H := by
  obtain ⟨F, r, b, r', wd, he, q⟩ := q
  unfold isYes at h
  split at h
  · simp only [evE, Option.some.injEq, Prod.mk.injEq, Sl.fr.injEq, Cn.d, PyData.bool.injEq] at he
    obtain ⟨rfl, rfl⟩ := he
    exact q F H Fr.refl wd fun _ k => k
  · cases h
theorem pt_plain {C : Call} {X : Cx} {e : Ex} {ae : Expr} (h : PE X ae (tE C X.K e)) (hp : plainT ae = true) : PT X ae (tT C X.K e) ∧ (∀ op vs pos, ae = .BoolOp op vs pos → PW X ae (tT C X.K e)) :=
  ⟨PT.imp (pt_val h (plain_test hp)) fun σ H Q q => tT_val q, fun op vs pos e => by subst e; cases hp⟩
theorem mE_boolop {N : List Str} {G : Gm} {sc : Scope} {e : Ex} {op : BoolOp} {vs : List Expr} {pos : Pos} (h : mE N G sc e (.BoolOp op vs pos) = true) : (∃ a b, e = .an a b) ∨ (∃ a b, e = .orr a b) := by
  cases e with
  | an a b => exact .inl ⟨a, b, rfl⟩
  | orr a b => exact .inr ⟨a, b, rfl⟩
  | k c => simp [mE, mK] at h
  | _ => simp [mE] at h
def isT (e : Expr) : Prop := ∀ op vs pos, e ≠ .BoolOp op vs pos

mutual
theorem sE : ∀ (e : Ex) {G : Gm} {C : Call} {k : Nat} {X : Cx} {own : Scope} (g : Gd G C k X own) (ae : Expr), mE X.N G X.env.scope e ae = true → PE X ae (tE C X.K e)
  | .k c, G, C, k, X, own, g, ae, h => PE.imp (sK g (by simpa [mE] using h)) fun _ _ _ q => core_k q
  | .v i, G, C, k, X, own, g, ae, h => by
    cases ae with
    | Name x pos => exact PE.imp (mV_of (by simpa [mE] using h)) fun _ _ _ q => core_v q
    | _ => simp [mE] at h
  | .mv i, G, C, k, X, own, g, ae, h => by
    cases ae with
    | Name x pos => exact PE.imp (mV_of (by simpa [mE] using h)) fun _ _ _ q => core_mv q
    | _ => simp [mE] at h
  | .bw i, G, C, k, X, own, g, ae, h => by
    cases ae with
    | Name x pos => exact PE.imp (mV_of (by simpa [mE] using h)) fun _ _ _ q => core_bw q
    | _ => simp [mE] at h
  | .ln i, G, C, k, X, own, g, ae, h => by
    cases ae with
    | Name x pos => exact PE.imp (mV_of (by simpa [mE] using h)) fun _ _ _ q => core_ln q
    | _ => simp [mE] at h
  | .tup es, G, C, k, X, own, g, ae, h => by
    cases ae with
    | Tuple as kk pos => exact PE.imp (pe_tup (sEs es g as (by simpa [mE] using h))) fun _ _ _ q => core_tup q
    | _ => simp [mE] at h
  | .lst es, G, C, k, X, own, g, ae, h => by
    cases ae with
    | List as pos => exact PE.imp (pe_lst (sEs es g as (by simpa [mE] using h))) fun _ _ _ q => core_lst q
    | _ => simp [mE] at h
  | .dct ks es, G, C, k, X, own, g, ae, h => by cases ae <;> simp [mE] at h
  | .bin o a b, G, C, k, X, own, g, ae, h => by
    cases ae with
    | BinOp x op y pos =>
      simp only [mE, Bool.and_eq_true, decide_eq_true_eq] at h
      obtain ⟨⟨rfl, h1⟩, h2⟩ := h
      exact PE.imp (pe_op (op_binD o) (sE a g x h1) (sE b g y h2)) fun _ _ _ q => core_bin q
    | _ => simp [mE] at h
  | .neg a, G, C, k, X, own, g, ae, h => by
    cases ae with
    | UnaryOp op x pos =>
      cases op with
      | USub => exact PE.imp (pe_un un_neg (sE a g x (by simpa [mE] using h))) fun _ _ _ q => core_neg q
      | _ => simp [mE] at h
    | _ => simp [mE] at h
  | .nt a, G, C, k, X, own, g, ae, h => by
    cases ae with
    | UnaryOp op x pos =>
      cases op with
      | Not => exact PE.imp (pe_not (sE a g x (by simpa [mE] using h))) fun _ _ _ q => core_nt q
      | _ => simp [mE] at h
    | _ => simp [mE] at h
  | .cmp o a b, G, C, k, X, own, g, ae, h => by
    cases ae with
    | Compare x ops ys pos =>
      match ops, ys, h with
      | [op], [y], h =>
        simp only [mE, Bool.and_eq_true, decide_eq_true_eq] at h
        obtain ⟨⟨⟨rfl, h0⟩, h1⟩, h2⟩ := h
        exact PE.imp (pe_cmpR (op_cmpD o g.units) (sE a g x h1) (sE b g y h2) (notSet_mark h0)) fun _ _ _ q => core_cmp q
      | [], _, h => simp [mE] at h
      | [_], [], h => simp [mE] at h
      | [_], _ :: _ :: _, h => simp [mE] at h
      | _ :: _ :: _, _, h => simp [mE] at h
    | _ => simp [mE] at h
  | .ch o p a b c, G, C, k, X, own, g, ae, h => by
    cases ae with
    | Compare x ops ys pos =>
      match ops, ys, h with
      | [op, op'], [y, z], h =>
        simp only [mE, Bool.and_eq_true, decide_eq_true_eq] at h
        obtain ⟨⟨⟨⟨⟨rfl, rfl⟩, h0⟩, h1⟩, h2⟩, h3⟩ := h
        exact PE.imp (pe_chain (op_cmpD o g.units) (op_cmpD p g.units) (sE a g x h1) (sE b g y h2) (sE c g z h3) (by show behindInMarks _ z = false; exact notSet_mark h0)) fun _ _ _ q => core_ch q
      | [], _, h => simp [mE] at h
      | [_], _, h => simp [mE] at h
      | [_, _], [], h => simp [mE] at h
      | [_, _], [_], h => simp [mE] at h
      | [_, _], _ :: _ :: _ :: _, h => simp [mE] at h
      | _ :: _ :: _ :: _, _, h => simp [mE] at h
    | _ => simp [mE] at h
  | .an a b, G, C, k, X, own, g, ae, h => by
    cases ae with
    | BoolOp op vs pos =>
      match op, vs, h with
      | .And, [x, y], h =>
        simp only [mE, Bool.and_eq_true] at h
        exact PE.imp (pe_and (sE a g x h.1) (pe_one (sE b g y h.2))) fun _ _ _ q => core_an q
      | .And, x :: y :: z :: ys, h =>
        simp only [mE, Bool.and_eq_true] at h
        exact PE.imp (pe_and (sE a g x h.1) (sE b g _ h.2)) fun _ _ _ q => core_an q
      | .And, [], h => simp [mE] at h
      | .And, [_], h => simp [mE] at h
      | .Or, _, h => simp [mE] at h
    | _ => simp [mE] at h
  | .orr a b, G, C, k, X, own, g, ae, h => by
    cases ae with
    | BoolOp op vs pos =>
      match op, vs, h with
      | .Or, [x, y], h =>
        simp only [mE, Bool.and_eq_true] at h
        exact PE.imp (pe_or (sE a g x h.1) (pe_one (sE b g y h.2))) fun _ _ _ q => core_orr q
      | .Or, x :: y :: z :: ys, h =>
        simp only [mE, Bool.and_eq_true] at h
        exact PE.imp (pe_or (sE a g x h.1) (sE b g _ h.2)) fun _ _ _ q => core_orr q
      | .Or, [], h => simp [mE] at h
      | .Or, [_], h => simp [mE] at h
      | .And, _, h => simp [mE] at h
    | _ => simp [mE] at h
  | .ix a b, G, C, k, X, own, g, ae, h => by
    cases ae with
    | Subscript x y pos =>
      simp only [mE, Bool.and_eq_true, Bool.not_eq_true'] at h
      exact PE.imp (pe_ix ix_idxD (sE a g x h.1.2) (sE b g y h.2) (plain_ix h.1.1)) fun _ _ _ q => core_ix q
    | _ => simp [mE] at h
  | .sl a lo hi, G, C, k, X, own, g, ae, h => by
    cases ae with
    | Subscript x y pos =>
      cases y with
      | Slice l u st p2 =>
        cases st with
        | some st => simp [mE] at h
        | none =>
          simp only [mE, Bool.and_eq_true] at h
          have hl : PO X l (tPO C X.K lo) := by
            unfold tPO
            cases l with
            | none =>
              rw [if_pos h.1.2]
              exact po_none
            | some l =>
              have h2 := h.1.2
              simp only [Bool.and_eq_true, Bool.not_eq_true'] at h2
              rw [if_neg (by rw [h2.1]; decide)]
              exact po_some (sE lo g l h2.2)
          have hu : PO X u (tPO C X.K hi) := by
            unfold tPO
            cases u with
            | none =>
              rw [if_pos h.2]
              exact po_none
            | some u =>
              have h2 := h.2
              simp only [Bool.and_eq_true, Bool.not_eq_true'] at h2
              rw [if_neg (by rw [h2.1]; decide)]
              exact po_some (sE hi g u h2.2)
          exact PE.imp (pe_slice sl_sliceD (sE a g x h.1.1) hl hu) fun _ _ _ q => core_sl q
      | _ => simp [mE] at h
    | _ => simp [mE] at h
  | .call f es, G, C, k, X, own, g, ae, h => by
    cases ae with
    | Call fn as kws pos =>
      cases fn with
      | Name x p =>
        cases kws with
        | cons kw kws => simp [mE] at h
        | nil =>
          simp only [mE, Bool.and_eq_true, decide_eq_true_eq] at h
          obtain ⟨⟨⟨⟨h1, h2⟩, h3⟩, h4⟩, h5⟩ := h
          obtain ⟨a, fd, ps, m1, m2, m3, m4⟩ := g.funs x f h1
          have hA := sEs es g as h5
          cases as with
          | nil =>
            refine PE.imp (pe_callGx0 m4 g.rm g.gd (gloB_of h2) m1 m2 m3 (nmOk_of h3).1) fun _ _ _ q => ?_
            cases es with
            | nil => exact core_nil (core_call q)
            | cons e es => simp [mEs] at h5
          | cons a as => exact PE.imp (pe_callGx m4 g.rm g.gd (gloB_of h2) m1 m2 m3 hA (nmOk_of h3).1 h4) fun _ _ _ q => core_call q
      | _ => simp [mE] at h
    | _ => simp [mE] at h
  | .bt b es, G, C, k, X, own, g, ae, h => by
    cases ae with
    | Call fn as kws pos =>
      cases fn with
      | Name x p =>
        cases kws with
        | cons kw kws => simp [mE] at h
        | nil =>
          simp only [mE, Bool.and_eq_true, decide_eq_true_eq] at h
          obtain ⟨⟨⟨⟨⟨rfl, h2⟩, h3⟩, h4⟩, h5⟩, h6⟩ := h
          have hA := sEs es g as h6
          cases as with
          | nil => simp at h5
          | cons a as => exact PE.imp (core_callB g (btV_kind b) h2 h3 hA h4) fun _ _ _ q => core_bt q
      | _ => simp [mE] at h
    | _ => simp [mE] at h
  | .isi a ts, G, C, k, X, own, g, ae, h => by
    cases ae with
    | Call fn as kws pos =>
      cases fn with
      | Name x p =>
        match as, kws, h with
        | [y, t], [], h =>
          simp only [mE, Bool.and_eq_true, decide_eq_true_eq] at h
          obtain ⟨⟨⟨⟨⟨rfl, h2⟩, h3⟩, h4⟩, h5⟩, h6⟩ := h
          have hA := sE a g y h5
          cases t with
          | Tuple es kk tp =>
            simp only [Bool.and_eq_true, decide_eq_true_eq] at h6
            obtain ⟨h6, h7⟩ := h6
            refine PE.imp (pe_callB call_isiT (gloB_of h2) (g.blts _ h3) boot_isi (pa_cons hA (pa_cons (pe_tup (sTys g h6.1 h6.2)) pa_nil rfl) (star_cons h4)) (by decide) (by decide) (star_cons h4) rfl) fun σ H Q q => ?_
            obtain ⟨F, r, w, r', wd, he, q⟩ := core_isi q
            refine ⟨F, r, w, r', wd, he, fun v F1 H1 p => ?_⟩
            obtain ⟨d, hd, q⟩ := q v F1 H1 p
            have rpd := hd.rp p.wd.le
            refine ⟨by rw [List.length_map, ← SZ_eq]; exact Nat.le_trans (Nat.le_of_lt h7) (by decide), fun pp hp => ⟨v, pp, _, _, _, _, rfl, upd_same, pairs_ty ts, rp_tyx (Rp.mono (same_up hp) _ _ rpd), kit_any d ts, q F1 _ (Fr.refl.up hp) (p.wd.le.trans (same_up hp))⟩⟩
          | Name z p2 =>
            cases ts with
            | nil => simp at h6
            | cons u ts =>
              cases ts with
              | cons u2 ts => simp at h6
              | nil =>
                refine PE.imp (pe_callB call_isi (gloB_of h2) (g.blts _ h3) boot_isi (pa_cons hA (pa_cons (sTy g h6) pa_nil rfl) (star_cons h4)) (by decide) (by decide) (star_cons h4) rfl) fun σ H Q q => ?_
                obtain ⟨F, r, w, r', wd, he, q⟩ := core_isi q
                refine ⟨F, r, w, r', wd, he, fun v F1 H1 p => ?_⟩
                obtain ⟨d, hd, q⟩ := q v F1 H1 p
                refine ⟨v, _, _, _, isTy d u, rfl, .ty _, rp_tyx (hd.rp p.wd.le), kit_ty (kit_is d u), ?_⟩
                have := q F1 H1 Fr.refl p.wd.le
                simpa using this
          | _ => simp at h6
        | [], _, h => simp [mE] at h
        | [_], _, h => simp [mE] at h
        | _ :: _ :: _ :: _, _, h => simp [mE] at h
        | [_, _], _ :: _, h => simp [mE] at h
      | _ => simp [mE] at h
    | _ => simp [mE] at h
  | .mu m i es, G, C, k, X, own, g, ae, h => by
    cases ae with
    | Call fn as kws pos =>
      cases fn with
      | Attribute o name apos =>
        cases o with
        | Name x p =>
          cases kws with
          | cons kw kws => simp [mE] at h
          | nil =>
            simp only [mE, Bool.and_eq_true, decide_eq_true_eq] at h
            obtain ⟨⟨⟨⟨⟨h1, rfl⟩, h3⟩, h4⟩, h5⟩, h6⟩ := h
            have hA := sEs es g as h6
            cases as with
            | nil =>
              refine PE.imp (pe_bm0 PySem.F.plainAttrs_list (slot_mu m) (ty_mu m) (mt_mu m) (mV_of h1) rfl h3) fun _ _ _ q => ?_
              cases es with
              | nil =>
                obtain ⟨v, e1, ty, q⟩ := core_mu q
                exact ⟨v, e1, ty, core_nil q⟩
              | cons e es => simp [mEs] at h6
            | cons a as =>
              obtain ⟨n1, n2⟩ := noStars_tail h4
              exact PE.imp (pe_bm PySem.F.plainAttrs_list (slot_mu m) (ty_mu m) (mt_mu m) (mV_of h1) hA rfl (by rw [star_all h4]; simp only [Bool.true_and, decide_eq_true_eq, Bool.and_eq_true, List.length_cons, List.length_nil, List.isEmpty_nil, if_true] at h5 ⊢; exact ⟨rfl, by omega⟩) h3 (star_cons n1) (star_none n2)) fun _ _ _ q => core_mu q
        | _ => simp [mE] at h
      | _ => simp [mE] at h
    | _ => simp [mE] at h
  | .lc t it c e ow, G, C, k, X, own, g, ae, h => by
    cases ae with
    | ListComp elt gens scope pos =>
      match gens, h with
      | [⟨tg, iter, ifs, z⟩], h =>
          simp only [mE, Bool.and_eq_true, decide_eq_true_eq] at h
          obtain ⟨⟨⟨⟨⟨⟨⟨rfl, h1⟩, h2⟩, h3⟩, h4⟩, h5⟩, h6⟩, h7⟩ := h
          have ok := blkOk_by h1
          have hst : ∀ i ∈ t.st, i ∈ ow := fun i hi => by
            have := List.all_eq_true.mp h2 i hi
            simpa using this
          have own2 : (ownN X.N ow).map (·.2) = ow := by unfold ownN; rw [List.map_map]; exact List.map_id ow
          have gb := fun (s : Shared) (H : Hp) (A : Addr) (cl : List (Str × Addr)) (fp : List Addr) => Gd.blk g s H scope cl A fp ok.kind
          have hI := sI it g tg iter h5
          have hG : ∀ (s : Shared) (H : Hp) (A : Addr) (cl : List (Str × Addr)) (fp : List Addr), PG (X.blk s H scope (compEnvC scope cl A X.env) fp) tg (tG X.K t) := fun s H A cl fp => (sG (gb s H A cl fp) t).1 tg h3
          have hE : ∀ (s : Shared) (H : Hp) (A : Addr) (cl : List (Str × Addr)) (fp : List Addr), PE (X.blk s H scope (compEnvC scope cl A X.env) fp) elt (tE C X.K e) := fun s H A cl fp => sE e (gb s H A cl fp) elt h7
          match ifs, h6 with
          | [], h6 =>
            have z := pe_lc (elt := elt) (pos := pos) (tt := tYes) g.calm g.nd hI ok hG (fun _ _ _ _ _ => pts_nil) hE (notSet_fold h4)
            rw [own2] at z
            exact PE.imp z fun σ H Q q => core_lc hst (fun σ H Q q => yes_of h6 q) q
          | [x], h6 =>
            have hT : ∀ (s : Shared) (H : Hp) (A : Addr) (cl : List (Str × Addr)) (fp : List Addr), PTs (X.blk s H scope (compEnvC scope cl A X.env) fp) [x] (tT C X.K c) := fun s H A cl fp => pts_one (sT c (gb s H A cl fp) x h6).1
            have z := pe_lc (elt := elt) (pos := pos) g.calm g.nd hI ok hG hT hE (notSet_fold h4)
            rw [own2] at z
            exact PE.imp z fun σ H Q q => core_lc hst (fun σ H Q q => q) q
          | _ :: _ :: _, h6 => simp at h6
      | [], h => simp [mE] at h
      | _ :: _ :: _, h => simp [mE] at h
    | _ => simp [mE] at h
theorem sT : ∀ (e : Ex) {G : Gm} {C : Call} {k : Nat} {X : Cx} {own : Scope} (g : Gd G C k X own) (ae : Expr), mE X.N G X.env.scope e ae = true → PT X ae (tT C X.K e) ∧ (∀ op vs pos, ae = .BoolOp op vs pos → PW X ae (tT C X.K e))
  | .k c, G, C, k, X, own, g, ae, h => pt_plain (sE (.k c) g ae h) (by cases ae <;> first | rfl | simp [mE, mK] at h)
  | .v i, G, C, k, X, own, g, ae, h => pt_plain (sE (.v i) g ae h) (by cases ae <;> first | rfl | simp [mE, mK] at h)
  | .mv i, G, C, k, X, own, g, ae, h => pt_plain (sE (.mv i) g ae h) (by cases ae <;> first | rfl | simp [mE, mK] at h)
  | .bw i, G, C, k, X, own, g, ae, h => pt_plain (sE (.bw i) g ae h) (by cases ae <;> first | rfl | simp [mE, mK] at h)
  | .ln i, G, C, k, X, own, g, ae, h => pt_plain (sE (.ln i) g ae h) (by cases ae <;> first | rfl | simp [mE, mK] at h)
  | .tup es, G, C, k, X, own, g, ae, h => pt_plain (sE (.tup es) g ae h) (by cases ae <;> first | rfl | simp [mE, mK] at h)
  | .lst es, G, C, k, X, own, g, ae, h => pt_plain (sE (.lst es) g ae h) (by cases ae <;> first | rfl | simp [mE, mK] at h)
  | .dct ks es, G, C, k, X, own, g, ae, h => pt_plain (sE (.dct ks es) g ae h) (by cases ae <;> first | rfl | simp [mE, mK] at h)
  | .bin o a b, G, C, k, X, own, g, ae, h => pt_plain (sE (.bin o a b) g ae h) (by cases ae <;> first | rfl | simp [mE, mK] at h)
  | .ix a b, G, C, k, X, own, g, ae, h => pt_plain (sE (.ix a b) g ae h) (by cases ae <;> first | rfl | simp [mE, mK] at h)
  | .sl a lo hi, G, C, k, X, own, g, ae, h => pt_plain (sE (.sl a lo hi) g ae h) (by cases ae <;> first | rfl | simp [mE, mK] at h)
  | .call f es, G, C, k, X, own, g, ae, h => pt_plain (sE (.call f es) g ae h) (by cases ae <;> first | rfl | simp [mE, mK] at h)
  | .bt b es, G, C, k, X, own, g, ae, h => pt_plain (sE (.bt b es) g ae h) (by cases ae <;> first | rfl | simp [mE, mK] at h)
  | .isi a ts, G, C, k, X, own, g, ae, h => pt_plain (sE (.isi a ts) g ae h) (by cases ae <;> first | rfl | simp [mE, mK] at h)
  | .mu m i es, G, C, k, X, own, g, ae, h => pt_plain (sE (.mu m i es) g ae h) (by cases ae <;> first | rfl | simp [mE, mK] at h)
  | .lc t it c e ow, G, C, k, X, own, g, ae, h => pt_plain (sE (.lc t it c e ow) g ae h) (by cases ae <;> first | rfl | simp [mE, mK] at h)
  | .neg a, G, C, k, X, own, g, ae, h => pt_plain (sE (.neg a) g ae h) (by
    cases ae with
    | UnaryOp op x pos => cases op <;> first | rfl | simp [mE] at h
    | _ => first | rfl | simp [mE] at h)
  | .nt a, G, C, k, X, own, g, ae, h => by
    cases ae with
    | UnaryOp op x pos =>
      cases op with
      | Not => exact ⟨PT.imp (pt_not (sT a g x (by simpa [mE] using h)).1) fun _ _ _ q => core_ntT q, fun op vs pos e => nomatch e⟩
      | _ => simp [mE] at h
    | _ => simp [mE] at h
  | .cmp o a b, G, C, k, X, own, g, ae, h => by
    cases ae with
    | Compare x ops ys pos =>
      match ops, ys, h with
      | [op], [y], h =>
        simp only [mE, Bool.and_eq_true, decide_eq_true_eq] at h
        obtain ⟨⟨⟨rfl, h0⟩, h1⟩, h2⟩ := h
        exact ⟨PT.imp (pt_cmpR (op_cmpD o g.units) (sE a g x h1) (sE b g y h2) (notSet_mark h0)) fun _ _ _ q => core_cmp (tT_val q), fun op vs pos e => nomatch e⟩
      | [], _, h => simp [mE] at h
      | [_], [], h => simp [mE] at h
      | [_], _ :: _ :: _, h => simp [mE] at h
      | _ :: _ :: _, _, h => simp [mE] at h
    | _ => simp [mE] at h
  | .ch o p a b c, G, C, k, X, own, g, ae, h => by
    cases ae with
    | Compare x ops ys pos =>
      match ops, ys, h with
      | [op, op'], [y, z], h =>
        simp only [mE, Bool.and_eq_true, decide_eq_true_eq] at h
        obtain ⟨⟨⟨⟨⟨rfl, rfl⟩, h0⟩, h1⟩, h2⟩, h3⟩ := h
        exact ⟨PT.imp (pt_chain (op_cmpD o g.units) (op_cmpD p g.units) (sE a g x h1) (sE b g y h2) (sE c g z h3) (by show behindInMarks _ z = false; exact notSet_mark h0)) fun _ _ _ q => core_ch (tT_val q), fun op vs pos e => nomatch e⟩
      | [], _, h => simp [mE] at h
      | [_], _, h => simp [mE] at h
      | [_, _], [], h => simp [mE] at h
      | [_, _], [_], h => simp [mE] at h
      | [_, _], _ :: _ :: _ :: _, h => simp [mE] at h
      | _ :: _ :: _ :: _, _, h => simp [mE] at h
    | _ => simp [mE] at h
  | .an a b, G, C, k, X, own, g, ae, h => by
    cases ae with
    | BoolOp op vs pos =>
      have key : PW X (.BoolOp op vs pos) (tT C X.K (.an a b)) := by
        match op, vs, h with
        | .And, [x, y], h =>
          simp only [mE, Bool.and_eq_true] at h
          exact PW.imp (pw_and (sT a g x h.1).1 (pw_and1 (sT b g y h.2).1)) fun _ _ _ q => core_anT q
        | .And, x :: y :: z :: ys, h =>
          simp only [mE, Bool.and_eq_true] at h
          exact PW.imp (pw_and (sT a g x h.1).1 ((sT b g _ h.2).2 _ _ _ rfl)) fun _ _ _ q => core_anT q
        | .And, [], h => simp [mE] at h
        | .And, [_], h => simp [mE] at h
        | .Or, _, h => simp [mE] at h
      exact ⟨key.pt, fun _ _ _ _ => key⟩
    | _ => simp [mE] at h
  | .orr a b, G, C, k, X, own, g, ae, h => by
    cases ae with
    | BoolOp op vs pos =>
      have key : PW X (.BoolOp op vs pos) (tT C X.K (.orr a b)) := by
        match op, vs, h with
        | .Or, [x, y], h =>
          simp only [mE, Bool.and_eq_true] at h
          exact PW.imp (pw_or (sT a g x h.1).1 (pw_or1 (sT b g y h.2).1)) fun _ _ _ q => core_orT q
        | .Or, x :: y :: z :: ys, h =>
          simp only [mE, Bool.and_eq_true] at h
          exact PW.imp (pw_or (sT a g x h.1).1 ((sT b g _ h.2).2 _ _ _ rfl)) fun _ _ _ q => core_orT q
        | .Or, [], h => simp [mE] at h
        | .Or, [_], h => simp [mE] at h
        | .And, _, h => simp [mE] at h
      exact ⟨key.pt, fun _ _ _ _ => key⟩
    | _ => simp [mE] at h
theorem sEs : ∀ (es : Exs) {G : Gm} {C : Call} {k : Nat} {X : Cx} {own : Scope} (g : Gd G C k X own) (as : List Expr), mEs X.N G X.env.scope es as = true → PA X as (tEs C X.K es)
  | .nil, G, C, k, X, own, g, as, h => by
    cases as with
    | nil => exact PA.imp pa_nil fun _ _ _ q => core_nil q
    | cons a as => simp [mEs] at h
  | .cons e es, G, C, k, X, own, g, as, h => by
    cases as with
    | nil => simp [mEs] at h
    | cons a as =>
      simp only [mEs, Bool.and_eq_true] at h
      exact PA.imp (pa_cons (sE e g a h.1.2) (sEs es g as h.2) (star_cons h.1.1)) fun _ _ _ q => core_cons q
theorem sI : ∀ (it : Itr) {G : Gm} {C : Call} {k : Nat} {X : Cx} {own : Scope} (g : Gd G C k X own) (tg iter : Expr), mI X.N G X.env.scope it tg iter = true → PI X tg iter (tI C X.K it)
  | .ov e, G, C, k, X, own, g, tg, iter, h => by
    have hE := sE e g iter (by simpa [mI] using h)
    exact PI.imp (PI.orr (pi_list hE) (pi_tup hE)) fun _ _ _ q => core_ov q
  | .rg es, G, C, k, X, own, g, tg, iter, h => by
    cases iter with
    | Call fn as kws pos =>
      cases fn with
      | Name x p =>
        cases kws with
        | cons kw kws => simp [mI] at h
        | nil =>
          simp only [mI, Bool.and_eq_true, decide_eq_true_eq] at h
          obtain ⟨⟨⟨⟨⟨rfl, h2⟩, h3⟩, h4⟩, h5⟩, h6⟩ := h
          have hA := sEs es g as h5
          match as, hA, h4, h5, h6 with
          | [a], hA, h4, h5, h6 =>
            exact PI.imp (pi_range1 (gloB_of h2) (g.blts _ h3) hA (star_cons (noStars_tail h4).1)) fun σ H R q => core_rg1 (mEs_len h5) q
          | [a, b], hA, h4, h5, h6 =>
            obtain ⟨n1, n2⟩ := noStars_tail h4
            refine PI.imp (pi_range2 (gloB_of h2) (g.blts _ h3) hA (by rw [star_cons n1, star_cons (noStars_tail n2).1]; rfl) (star_cons (noStars_tail n2).1)) fun σ H R q => core_rg2 (mEs_len h5) q
          | [], _, _, _, h6 => simp at h6
          | _ :: _ :: _ :: _, _, _, _, h6 => simp at h6
      | _ => simp [mI] at h
    | _ => simp [mI] at h
  | .zp es, G, C, k, X, own, g, tg, iter, h => by
    cases iter with
    | Call fn as kws pos =>
      cases fn with
      | Name x p =>
        cases kws with
        | cons kw kws => simp [mI] at h
        | nil =>
          simp only [mI, Bool.and_eq_true, decide_eq_true_eq] at h
          obtain ⟨⟨⟨⟨⟨⟨rfl, h2⟩, h3⟩, h4⟩, h5⟩, h6⟩, h7⟩ := h
          have hA := sEs es g as h5
          obtain ⟨el, kk, tp, rfl⟩ := isTup_of h6
          match as, hA, h4, h5, h7 with
          | [a, b], hA, h4, h5, h7 =>
            obtain ⟨n1, n2⟩ := noStars_tail h4
            exact PI.imp (RZ.pi_zipA (gloB_of h2) (g.blts _ h3) hA (star_cons n1) (star_none n2)) fun σ H R q => core_zp q
          | [], _, _, _, h7 => simp at h7
          | [_], _, _, _, h7 => simp at h7
          | _ :: _ :: _ :: _, _, _, _, h7 => simp at h7
      | _ => simp [mI] at h
    | _ => simp [mI] at h
  | .en e, G, C, k, X, own, g, tg, iter, h => by
    cases iter with
    | Call fn as kws pos =>
      cases fn with
      | Name x p =>
        match as, kws, h with
        | [a], [], h =>
          simp only [mI, Bool.and_eq_true, decide_eq_true_eq] at h
          obtain ⟨⟨⟨⟨⟨rfl, h2⟩, h3⟩, h4⟩, h5⟩, h6⟩ := h
          obtain ⟨el, kk, tp, rfl⟩ := isTup_of h6
          exact PI.imp (pi_enum (gloB_of h2) (g.blts _ h3) (pa_cons (sE e g a h5) pa_nil (star_cons h4)) (star_cons h4)) fun σ H R q => core_en q
        | [], _, h => simp [mI] at h
        | _ :: _ :: _, _, h => simp [mI] at h
        | [_], _ :: _, h => simp [mI] at h
      | _ => simp [mI] at h
    | _ => simp [mI] at h
end
end Bx

set_option Elab.async false
set_option linter.all false
set_option maxRecDepth 100000
set_option autoImplicit false
set_option maxHeartbeats 4000000
/-! Statements. -/
namespace Bx
open PySem PySem.Spec PyProof.Rows L2

section
variable {C : Call} {K : PySem.W.Frag} {F H F1 H1 F2 H2 F3 H3 : Hp} {r r1 r2 r3 : Env} {σ σ1 σ2 σ3 : SG} {st st1 st2 : List Nat}
/-- from one state to a later one, stores to st -/
structure Ps (K : PySem.W.Frag) (F H : Hp) (r : Env) (σ : SG) (st : List Nat) (r' : Env) (σ' : SG) (F' H' : Hp) : Prop where
  fr : Fr (Own r σ) F H F' H'
  wd : Wd K F' H' r' σ'
  sub : ∀ a, Own r' σ' a → Own r σ a ∨ H a = none
  ag : ∀ j, j ∉ st → σ'[j]? = σ[j]?
theorem Ps.trans (p : Ps K F H r σ st1 r1 σ1 F1 H1) (q : Ps K F1 H1 r1 σ1 st2 r2 σ2 F2 H2) (h1 : ∀ j ∈ st1, j ∈ st) (h2 : ∀ j ∈ st2, j ∈ st) : Ps K F H r σ st r2 σ2 F2 H2 := by
  refine ⟨p.fr.trans q.fr p.sub, q.wd, fun a k => ?_, fun j hj => ?_⟩
  · rcases q.sub a k with k | k
    · exact p.sub a k
    · by_cases no : Own r σ a
      · exact .inl no
      · right
        cases z : H a with
        | none => rfl
        | some u => rw [p.fr.hh a u z no] at k; cases k
  · rw [q.ag j fun m => hj (h2 j m), p.ag j fun m => hj (h1 j m)]
theorem Ps.of {w : Sl} {v : V} (p : Pe K F H r σ r1 w v F1 H1) : Ps K F H r σ st r1 σ F1 H1 := ⟨p.fr, p.wd, fun a k => .inl (p.sub a k), fun _ _ => rfl⟩
theorem Ps.ofT (f : Fr (Own r σ) F H F1 H1) (w : Wd K F1 H1 r1 σ) (s : ∀ a, Own r1 σ a → Own r σ a) : Ps K F H r σ st r1 σ F1 H1 := ⟨f, w, fun a k => .inl (s a k), fun _ _ => rfl⟩
/-- a slot told frozen data -/
theorem Ps.put {i : Nat} {d : PyData} {v : V} (f : Fr (Own r σ) F H F1 H1) (w : Wd K F1 H1 r1 σ) (s : ∀ a, Own r1 σ a → Own r σ a) (hi : i < r1.length) (q : Rp K F1 d v) (hst : i ∈ st) : Ps K F H r σ st (r1.set i (.fr d)) (σ.set i (some v)) F1 H1 :=
  ⟨f, w.put hi q, fun a k => .inl (s a (own_put (x := .fr d) (fun _ => nofun) k)), fun j hj => List.getElem?_set_ne fun e => hj (by rw [← e]; exact hst)⟩
theorem Nw.of_ps {w : Sl} {v : V} (p : Ps K F H r σ st r1 σ1 F1 H1) (n : Nw r1 σ1 H1 w v) : Nw r σ H w v := by
  cases w with
  | ow d =>
    intro a e
    have new : ∀ {b : Addr}, H1 b = none → H b = none ∨ Own r σ b := fun {b} q => by
      by_cases no : Own r σ b
      · exact .inr no
      · left
        cases k : H b with
        | none => rfl
        | some u => rw [p.fr.hh b u k no] at q; cases q
    rcases n a e with q | q
    · exact new q
    · exact (p.sub a q).symm
  | _ => trivial
/-- a result, as the statement behind wants it -/
def okR (K : PySem.W.Frag) (D : Ends) (F H : Hp) (r : Env) (σ : SG) (st : List Nat) : Rs → Prop
  | .nx r' => ∀ σ' F' H', Ps K F H r σ st r' σ' F' H' → D.nx σ' H'
  | .rt w r' => ∀ v σ' F' H', Ps K F H r σ st r' σ' F' H' → RpV K F' H' r' σ' w v → Nw r σ H w v → D.rt v H'
theorem okR.step {D : Ends} {q : Rs} (p : Ps K F H r σ st1 r1 σ1 F1 H1) (h1 : ∀ j ∈ st1, j ∈ st) (h2 : ∀ j ∈ st2, j ∈ st) (h : okR K D F H r σ st q) : okR K D F1 H1 r1 σ1 st2 q := by
  cases q with
  | nx r' => exact fun σ' F' H' z => h σ' F' H' (p.trans z h1 h2)
  | rt w r' => exact fun v σ' F' H' z rv n => h v σ' F' H' (p.trans z h1 h2) rv (n.of_ps p)
def tS (C : Call) (K : PySem.W.Frag) (s : S) : TS := fun D σ H => ∃ F r q, Wd K F H r σ ∧ evS C s r = some q ∧ okR K D F H r σ s.st q
def tB (C : Call) (K : PySem.W.Frag) (s : Ss) : TS := fun D σ H => ∃ F r q, Wd K F H r σ ∧ evB C s r = some q ∧ okR K D F H r σ s.st q

theorem sc_nil {D : Ends} (h : tB C K .nil D σ H) : tNext D σ H := by
  obtain ⟨F, r, q, wd, he, ok⟩ := h
  simp only [evB, Option.some.injEq] at he
  subst he
  exact ok σ F H ⟨Fr.refl, wd, fun _ k => .inl k, fun _ _ => rfl⟩
theorem sc_cons {s : S} {b : Ss} {D : Ends} (h : tB C K (.cons s b) D σ H) : tSeq (tS C K s) (tB C K b) D σ H := by
  obtain ⟨F, r, q, wd, he, ok⟩ := h
  simp only [evB] at he
  split at he
  · rename_i r1 h1
    exact ⟨F, r, .nx r1, wd, h1, fun σ1 F1 H1 p => ⟨F1, r1, q, p.wd, he, okR.step p (fun j m => List.mem_append_left _ m) (fun j m => List.mem_append_right _ m) ok⟩⟩
  · rename_i w r1 h1
    cases he
    exact ⟨F, r, .rt w r1, wd, h1, fun v σ1 F1 H1 p rv n => ok v σ1 F1 H1 ⟨p.fr, p.wd, p.sub, fun j hj => p.ag j fun m => hj (List.mem_append_left _ m)⟩ rv n⟩
  · cases he
theorem sc_ex {e : Ex} {D : Ends} (h : tS C K (.ex e) D σ H) : tDrop (tE C K e) D σ H := by
  obtain ⟨F, r, q, wd, he, ok⟩ := h
  simp only [evS] at he
  split at he
  · rename_i w r1 h1
    cases he
    exact ⟨F, r, w, r1, wd, h1, fun v F1 H1 p => ok σ F1 H1 (Ps.of p)⟩
  · cases he
theorem sc_rt {e : Ex} {D : Ends} (h : tS C K (.rt e) D σ H) : tRet (tE C K e) D σ H := by
  obtain ⟨F, r, q, wd, he, ok⟩ := h
  simp only [evS] at he
  split at he
  · rename_i d r1 h1
    cases he
    exact ⟨F, r, _, r1, wd, h1, fun v F1 H1 p => ok v σ F1 H1 (Ps.of p) p.rp p.nw⟩
  · rename_i d r1 h1
    cases he
    exact ⟨F, r, _, r1, wd, h1, fun v F1 H1 p => ok v σ F1 H1 (Ps.of p) p.rp p.nw⟩
  · cases he
theorem sc_rtN {D : Ends} (h : tS C K (.rt (.k .none)) D σ H) : tRetN D σ H := core_k (sc_rt h)
theorem sc_iff {c : Ex} {a b : Ss} {D : Ends} (h : tS C K (.iff c a b) D σ H) : tIfS (tT C K c) (tB C K a) (tB C K b) D σ H := by
  obtain ⟨F, r, q, wd, he, ok⟩ := h
  simp only [evS] at he
  split at he
  · rename_i r1 h1
    refine ⟨F, r, true, r1, wd, h1, fun F1 H1 f w s => ?_⟩
    show tB C K a D σ H1
    exact ⟨F1, r1, q, w, he, okR.step (Ps.ofT (st := []) f w s) (fun j m => by simp at m) (fun j m => List.mem_append_left _ m) ok⟩
  · rename_i r1 h1
    refine ⟨F, r, false, r1, wd, h1, fun F1 H1 f w s => ?_⟩
    show tB C K b D σ H1
    exact ⟨F1, r1, q, w, he, okR.step (Ps.ofT (st := []) f w s) (fun j m => by simp at m) (fun j m => List.mem_append_right _ m) ok⟩
  · cases he
theorem sc_nv {D : Ends} (h : tS C K .nv D σ H) : False := by
  obtain ⟨F, r, q, wd, he, ok⟩ := h
  cases he
/-! ### stores -/
/-- what is stored: frozen data, or a thing of one's own at a name -/
def tGA (K : PySem.W.Frag) (t : Tg) : TG := fun v σ H Q => ∃ F r w r', Wd K F H r σ ∧ RpV K F H r σ w v ∧ asg t w r = some r' ∧
  ∀ σ', Wd K F H r' σ' → (∀ j, j ∉ t.st → σ'[j]? = σ[j]?) → (∀ a, Own r' σ' a → Own r σ a ∨ ∃ d, w = .ow d ∧ v = .ref a) → Q σ' H
theorem Wd.putO (w : Wd K F H r σ) {i : Nat} {d : PyData} {a : Addr} (hi : i < r.length) (q : OwnAt K F H d a) (n : ¬ Own r σ a) : Wd K F H (r.set i (.ow d)) (σ.set i (some (V.ref a))) := by
  have hi' : i < σ.length := by rw [← w.len]; exact hi
  refine ⟨w.le, by rw [List.length_set, List.length_set]; exact w.len, fun j x h => ?_, fun j j' e e' b h1 h2 h3 h4 => ?_⟩
  · rcases set_get h with ⟨rfl, rfl⟩ | ⟨ne, h⟩
    · exact ⟨a, List.getElem?_set_self hi', q⟩
    · have z := w.sl j x h
      cases x with
      | no => trivial
      | fr d => obtain ⟨v, e1, z⟩ := z; exact ⟨v, by rw [List.getElem?_set_ne ne]; exact e1, z⟩
      | ow d => obtain ⟨v, e1, z⟩ := z; exact ⟨v, by rw [List.getElem?_set_ne ne]; exact e1, z⟩
      | lk k => exact z.elim
      | ln k => exact z.elim
  · rcases set_get h1 with ⟨rfl, _⟩ | ⟨n1, h1⟩
    · rcases set_get h2 with ⟨rfl, _⟩ | ⟨n2, h2⟩
      · rfl
      · rw [List.getElem?_set_self hi'] at h3
        cases h3
        rw [List.getElem?_set_ne n2] at h4
        exact (n ⟨j', e', h2, h4⟩).elim
    · rcases set_get h2 with ⟨rfl, _⟩ | ⟨n2, h2⟩
      · rw [List.getElem?_set_self hi'] at h4
        cases h4
        rw [List.getElem?_set_ne n1] at h3
        exact (n ⟨j, e, h1, h3⟩).elim
      · rw [List.getElem?_set_ne n1] at h3
        rw [List.getElem?_set_ne n2] at h4
        exact w.inj j j' e e' b h1 h2 h3 h4
theorem ga_nm {i : Nat} {v : V} {Q : SG → Hp → Prop} (h : tGA K (.nm i) v σ H Q) : gName i v σ H Q := by
  obtain ⟨F, r, w, r', wd, hv, he, q⟩ := h
  cases w with
  | fr d =>
    simp only [asg] at he
    split at he
    · rename_i hi
      cases he
      exact q _ (wd.put hi hv) (fun j hj => List.getElem?_set_ne (by simpa [Tg.st, eq_comm] using hj)) fun a k => .inl (own_put (x := .fr d) (fun _ => nofun) k)
    · cases he
  | ow d =>
    simp only [asg] at he
    split at he
    · rename_i hi
      cases he
      obtain ⟨a, rfl, o, n⟩ := hv
      refine q _ (wd.putO hi o n) (fun j hj => List.getElem?_set_ne (by simpa [Tg.st, eq_comm] using hj)) fun b ⟨j, e, h1, h2⟩ => ?_
      rcases set_get h1 with ⟨rfl, _⟩ | ⟨ne, h1⟩
      · rw [List.getElem?_set_self (by rw [← wd.len]; exact hi)] at h2
        cases h2
        exact .inr ⟨d, rfl, rfl⟩
      · rw [List.getElem?_set_ne ne] at h2
        exact .inl ⟨j, e, h1, h2⟩
    · cases he
  | no => simp [asg] at he
  | lk i => simp [asg] at he
  | ln i => simp [asg] at he
theorem ga_tup {a b : Tg} {v : V} {Q : SG → Hp → Prop} (h : tGA K (.tup a b) v σ H Q) : tG K (.tup a b) v σ H Q := by
  obtain ⟨F, r, w, r', wd, hv, he, q⟩ := h
  have he : ∃ d, see r w = some d ∧ asgT (.tup a b) d r = some r' := by
    cases w <;>
    · simp only [asg] at he
      split at he
      · exact ⟨_, by assumption, he⟩
      · cases he
  obtain ⟨d, h1, he⟩ := he
  have hd := see_ok wd hv h1
  cases d with
  | tuple xs =>
    obtain ⟨p, vs, rfl, s, z⟩ := hd.tup
    exact ⟨F, .tuple xs, r, r', wd, ⟨p, vs, rfl, s, z⟩, he, fun σ' w' ag s' => q σ' w' ag fun a k => .inl (s' a k)⟩
  | _ => cases he
theorem ga_tupn {v : V} {Q : SG → Hp → Prop} (h : tGA K .tupn v σ H Q) : tG K .tupn v σ H Q := by
  obtain ⟨F, r, w, r', wd, hv, he, q⟩ := h
  have he : ∃ d, see r w = some d ∧ asgT .tupn d r = some r' := by
    cases w <;>
    · simp only [asg] at he
      split at he
      · exact ⟨_, by assumption, he⟩
      · cases he
  obtain ⟨d, h1, he⟩ := he
  have hd := see_ok wd hv h1
  cases d with
  | tuple xs =>
    obtain ⟨p, vs, rfl, s, z⟩ := hd.tup
    exact ⟨F, .tuple xs, r, r', wd, ⟨p, vs, rfl, s, z⟩, he, fun σ' w' ag s' => q σ' w' ag fun a k => .inl (s' a k)⟩
  | _ => cases he
theorem sc_as {t : Tg} {e : Ex} {D : Ends} (h : tS C K (.as t e) D σ H) : tAsg (tE C K e) (tGA K t) D σ H := by
  obtain ⟨F, r, q, wd, he, ok⟩ := h
  simp only [evS] at he
  split at he
  · rename_i w r1 h1
    split at he
    · rename_i r2 h2
      cases he
      refine ⟨F, r, w, r1, wd, h1, fun v F1 H1 p => ⟨F1, r1, w, r2, p.wd, p.rp, h2, fun σ2 w2 ag s2 => ?_⟩⟩
      refine ok σ2 F1 H1 ⟨p.fr, w2, fun a k => ?_, ag⟩
      rcases s2 a k with k | ⟨d, rfl, rfl⟩
      · exact .inl (p.sub a k)
      · exact (p.nw a rfl).symm
    · cases he
  · cases he
theorem sc_par {i j : Nat} {a b : Ex} {D : Ends} (h : tS C K (.par i j a b) D σ H) : i ≠ j ∧ tPar i j (tEs C K (.cons a (.cons b .nil))) D σ H := by
  obtain ⟨F, r, q, wd, he, ok⟩ := h
  simp only [evS] at he
  split at he
  · rename_i ws r1 h1
    split at he
    · rename_i d e h2
      split at he
      · rename_i hij
        cases he
        refine ⟨hij.1, F, r, ws, r1, wd, h1, fun vs F1 H1 p => ?_⟩
        obtain ⟨F2, f, w2, z, s⟩ := freeze p h2
        obtain ⟨v, t, rfl, z1, w, t2, e2, z2, z3⟩ := z
        cases z3
        subst e2
        refine ⟨v, w, rfl, ok _ F2 H1 ⟨f, (w2.put hij.2.1 z1).put (by rw [List.length_set]; exact hij.2.2) z2, fun a k => .inl (p.sub a (own_put (x := .fr d) (fun _ => nofun) (own_put (x := .fr e) (fun _ => nofun) k))), fun l hl => ?_⟩⟩
        simp only [S.st, List.mem_cons, List.not_mem_nil, or_false, not_or] at hl
        rw [List.getElem?_set_ne fun e => hl.2 e.symm, List.getElem?_set_ne fun e => hl.1 e.symm]
      · cases he
    · cases he
  · cases he
theorem sc_sx {i : Nat} {x e : Ex} {D : Ends} (h : tS C K (.sx i x e) D σ H) : tAsg (tE C K e) (gSub (tVar i) (tE C K x) rSetL) D σ H := by
  obtain ⟨F, r, q, wd, he, ok⟩ := h
  simp only [evS] at he
  split at he
  · rename_i w r1 h1
    split at he
    · rename_i d y h2 hy
      split at he
      · rename_i k r2 h3
        split at he
        · rename_i xs hr2
          split at he
          · rename_i j hj
            cases he
            refine ⟨F, r, w, r1, wd, h1, fun v F1 H1 p => ?_⟩
            obtain ⟨a, e1, _⟩ := p.wd.sl i _ hy
            refine ⟨.ref a, e1, F1, r1, _, r2, p.wd, h3, fun iv F2 H2 p2 => ?_⟩
            obtain ⟨F3, f3, w3, rv, _⟩ := freeze1 (p.keep p2.fr p2.wd p2.sub) h2
            obtain ⟨b, e2, o⟩ := w3.sl i _ hr2
            rw [e1] at e2
            cases e2
            obtain ⟨o1, vs, o2, o3⟩ := o
            refine ⟨a, vs, k, j, rfl, p2.rp, o2, by rw [← o3.len]; exact hj, ?_⟩
            refine ok _ F3 _ ⟨f3.write (p.sub a (p2.sub a ⟨i, _, hr2, e1⟩)), w3.write hr2 e1 ⟨o1, _, upd_same, o3.set j rv⟩, fun c z => .inl (p.sub c (p2.sub c (own_write hr2 z))), fun _ _ => rfl⟩
          · cases he
        · cases he
      · cases he
    · cases he
  · cases he

/-! ### loops -/
theorem whileL_inv {c : Env → Option (Sl × Env)} {b : Env → Option Rs} {kill : List Nat} {m : Nat} {q : Rs} (h : whileL c b kill m r = some q) :
    ∃ n, m = n + 1 ∧ ∃ t r1, c r = some (.fr (.bool t), r1) ∧ ((t = true ∧ ∃ q1, b r1 = some q1 ∧ ((∃ r2, q1 = .nx r2 ∧ whileL c b kill n (killS r2 kill) = some q) ∨ (∃ w r2, q1 = .rt w r2 ∧ q = q1))) ∨ (t = false ∧ q = .nx r1)) := by
  cases m with
  | zero => cases h
  | succ n =>
    refine ⟨n, rfl, ?_⟩
    simp only [whileL] at h
    split at h
    · rename_i r1 h1
      split at h
      · rename_i r2 h2
        exact ⟨true, r1, h1, .inl ⟨rfl, _, h2, .inl ⟨r2, rfl, h⟩⟩⟩
      · rename_i w r2 h2
        cases h
        exact ⟨true, r1, h1, .inl ⟨rfl, _, h2, .inr ⟨w, r2, rfl, rfl⟩⟩⟩
      · cases h
    · rename_i r1 h1
      cases h
      exact ⟨false, r1, h1, .inr ⟨rfl, rfl⟩⟩
    · cases h
theorem Ps.kill (p : Ps K F H r σ st r1 σ1 F1 H1) (l : List Nat) : Ps K F H r σ st (killS r1 l) σ1 F1 H1 := by
  rw [kill_hide]
  exact ⟨p.fr, p.wd.hide l, fun a k => p.sub a (own_hide k), p.ag⟩
theorem sc_wh {c : Ex} {b : Ss} {kill : List Nat} {D : Ends} (h : tS C K (.wh c b kill) D σ H) : tWhile (tT C K c) (tB C K b) D σ H := by
  obtain ⟨F, r, q, wd, he, ok⟩ := h
  simp only [evS] at he
  let W : Nat → SG → Hp → Prop := fun m σ2 H2 => ∃ F2 r2, Ps K F H r σ b.st r2 σ2 F2 H2 ∧ whileL (evE C c) (evB C b) kill m r2 = some q
  refine ⟨W, ⟨TURNS, F, r, ⟨Fr.refl, wd, fun _ k => .inl k, fun _ _ => rfl⟩, he⟩, ?_⟩
  rintro m σ2 H2 ⟨F2, r2, p, hw⟩
  obtain ⟨n, rfl, t, r3, h3, hr⟩ := whileL_inv hw
  refine ⟨F2, r2, t, r3, p.wd, h3, fun F3 H3 f3 w3 s3 => ?_⟩
  have p3 : Ps K F H r σ b.st r3 σ2 F3 H3 := p.trans (Ps.ofT (st := []) f3 w3 s3) (fun _ m => m) fun j m => by simp at m
  rcases hr with ⟨rfl, q1, hq, hr⟩ | ⟨rfl, rfl⟩
  · show ∃ N : SG → Hp → Prop, (∀ σ' H', N σ' H' → ∃ m', m' < n + 1 ∧ W m' σ' H') ∧ tB C K b { D with nx := N, ct := N, bk := D.nx } σ2 H3
    refine ⟨fun σ' H' => W n σ' H', fun σ' H' k => ⟨n, Nat.lt_succ_self n, k⟩, F3, r3, q1, w3, hq, ?_⟩
    rcases hr with ⟨r4, rfl, hw2⟩ | ⟨w, r4, rfl, rfl⟩
    · exact fun σ' F' H' z => ⟨F', _, (p3.trans z (fun _ m => m) fun _ m => m).kill kill, hw2⟩
    · exact fun v σ' F' H' z rv n => ok v σ' F' H' (p3.trans z (fun _ m => m) fun _ m => m) rv (n.of_ps p3)
  · exact ok σ2 F3 H3 p3
theorem forL_inv {f : PyData → Env → Option Rs} {kill : List Nat} {x : PyData} {xs : List PyData} {q : Rs} (h : forL f kill (x :: xs) r = some q) :
    ∃ q1, f x r = some q1 ∧ ((∃ r1, q1 = .nx r1 ∧ forL f kill xs (killS r1 kill) = some q) ∨ (∃ w r1, q1 = .rt w r1 ∧ q = q1)) := by
  unfold forL at h
  split at h
  · rename_i r1 h1
    exact ⟨_, h1, .inl ⟨r1, rfl, h⟩⟩
  · rename_i w r1 h1
    cases h
    exact ⟨_, h1, .inr ⟨w, r1, rfl, rfl⟩⟩
  · cases h
theorem evS_rt {w : Sl} {s : S} (h : evS C s r = some (.rt w r1)) : True := trivial
theorem sc_fo {t : Tg} {it : Itr} {b : Ss} {kill : List Nat} {D : Ends} (h : tS C K (.fo t it b kill) D σ H) : tFor (tI C K it) (tG K t) (tB C K b) D σ H := by
  obtain ⟨F, r, q, wd, he, ok⟩ := h
  simp only [evS] at he
  split at he
  · rename_i xs hs r1 hi
    split at he
    · rename_i hdis
      split at he
      · rename_i q0 hf
        cases he
        refine ⟨F, r, xs, hs, r1, wd, hi, fun J F1 H1 f1 w1 s1 hO wk => ?_⟩
        let P : Addr → Prop := fun a => Own (hide r1 hs) σ a ∨ H1 a = none
        have hdis : ∀ j ∈ hs, j ∉ t.st ++ b.st := fun j hj => by
          have := List.all_eq_true.mp hdis j hj
          simpa using this
        let f : PyData → Env → Option Rs := fun x r => match asgT t x r with
          | some r2 => evB C b r2
          | none => none
        let W : Nat → Nat → SG → Hp → Prop := fun i m σ2 H2 => m = xs.length - i ∧ i ≤ xs.length ∧ ∃ F2 r2, Ps K F1 H1 (hide r1 hs) σ (t.st ++ b.st) r2 σ2 F2 H2 ∧ forL f kill (xs.drop i) r2 = some q0
        -- the loop's result, put back
        have fin : ∀ {r' : Env} {σ' : SG} {F' H' : Hp}, Ps K F1 H1 (hide r1 hs) σ (t.st ++ b.st) r' σ' F' H' → Ps K F H r σ (t.st ++ b.st) (back r1 r' hs) σ' F' H' ∧ ∀ a, Own (back r1 r' hs) σ' a → Own r' σ' a ∨ (Own r1 σ a ∧ ¬ P a) := fun {r' σ' F' H'} p => by
          obtain ⟨w4, s4⟩ := Wd.back (P := P) w1 p.wd p.fr hO p.sub (fun a k => k) fun j hj => p.ag j (hdis j hj)
          refine ⟨⟨f1.trans p.fr fun a k => .inl (s1 a (own_hide k)), w4, fun a k => ?_, p.ag⟩, s4⟩
          have new : ∀ {c : Addr}, H1 c = none → Own r σ c ∨ H c = none := fun {c} z => by
            by_cases no : Own r σ c
            · exact .inl no
            · right
              cases k : H c with
              | none => rfl
              | some u => rw [f1.hh c u k no] at z; cases z
          rcases s4 a k with k | k
          · rcases p.sub a k with k | k
            · exact .inl (s1 a (own_hide k))
            · exact new k
          · exact .inl (s1 a k.1)
        refine ⟨W, ⟨xs.length, rfl, Nat.zero_le _, F1, _, ⟨Fr.refl, w1.hide hs, fun _ k => .inl k, fun _ _ => rfl⟩, hf⟩, ?_⟩
        rintro i m σ2 H2 ⟨rfl, hil, F2, r2, p2, hfl⟩
        by_cases hlt : i < xs.length
        · right
          rw [List.drop_eq_getElem_cons hlt] at hfl
          obtain ⟨q1, hq1, hrest⟩ := forL_inv hfl
          have hwk := (wk F2 H2 p2.fr p2.wd.le).2 i xs[i] (List.getElem?_eq_getElem hlt)
          refine ⟨hwk.1, fun σ' H' => W (i + 1) (xs.length - (i + 1)) σ' H', fun σ' H' k => ⟨_, by omega, k⟩, fun v H3 hy => ?_⟩
          obtain ⟨F3, f3, le3, rv⟩ := hwk.2 v H3 hy
          have w3 := p2.wd.go f3 le3
          have hq1 : (match asgT t xs[i] r2 with | some r2 => evB C b r2 | none => none) = some q1 := hq1
          split at hq1
          · rename_i ra ha
            refine ⟨F3, xs[i], r2, ra, w3, rv, ha, fun σ4 w4 ag4 s4 => ⟨F3, ra, q1, w4, hq1, ?_⟩⟩
            have p4 : Ps K F1 H1 (hide r1 hs) σ (t.st ++ b.st) ra σ4 F3 H3 := by
              refine ⟨p2.fr.trans (O1 := noO) f3 fun _ z => z.elim, w4, fun a k => p2.sub a (s4 a k), fun j hj => ?_⟩
              simp only [List.mem_append, not_or] at hj
              rw [ag4 j hj.1, p2.ag j (by simp only [List.mem_append, not_or]; exact hj)]
            have go : ∀ {r5 : Env} {σ5 : SG} {F5 H5 : Hp}, Ps K F3 H3 ra σ4 b.st r5 σ5 F5 H5 → Ps K F1 H1 (hide r1 hs) σ (t.st ++ b.st) r5 σ5 F5 H5 := fun z => p4.trans z (fun _ m => m) fun j m => List.mem_append_right _ m
            rcases hrest with ⟨r5, rfl, hcl⟩ | ⟨w, r5, rfl, rfl⟩
            · exact fun σ' F' H' z => ⟨rfl, hlt, F', _, (go z).kill kill, hcl⟩
            · intro v5 σ' F' H' z rv5 n5
              obtain ⟨pf, bk⟩ := fin (go z)
              refine ok v5 σ' F' H' pf ?_ ?_
              · cases w with
                | no => exact rv5.elim
                | fr d => exact rv5
                | ow d =>
                  obtain ⟨a, ea, o, no⟩ := rv5
                  refine ⟨a, ea, o, fun k => ?_⟩
                  rcases bk a k with k | ⟨_, k⟩
                  · exact no k
                  · have n6 : Nw (hide r1 hs) σ H1 (.ow d) v5 := n5.of_ps p4
                    rcases n6 a ea with k2 | k2
                    · exact k (.inr k2)
                    · exact k (.inl k2)
                | lk j => exact rv5
                | ln j => exact rv5
              · have n6 : Nw (hide r1 hs) σ H1 w v5 := n5.of_ps p4
                cases w with
                | ow d =>
                  intro a ea
                  rcases n6 a ea with k | k
                  · by_cases no : Own r σ a
                    · exact .inr no
                    · left
                      cases z : H a with
                      | none => rfl
                      | some u => rw [f1.hh a u z no] at k; cases k
                  · exact .inr (s1 a (own_hide k))
                | _ => trivial
          · cases hq1
        · left
          have e : i = xs.length := by omega
          subst e
          refine ⟨(wk F2 H2 p2.fr p2.wd.le).1 _ (Nat.le_refl _), ?_⟩
          rw [List.drop_length] at hfl
          cases hfl
          exact ok σ2 F2 H2 (fin p2).1
      · cases he
    · cases he
  · cases he
end
end Bx

set_option Elab.async false
set_option linter.all false
set_option maxRecDepth 100000
set_option autoImplicit false
set_option maxHeartbeats 4000000
/-! Every statement; a def; a program's defs. -/
namespace Bx
open PySem PySem.Spec PyProof.Rows L2

section
variable {G : Gm} {C : Call} {k : Nat} {X : Cx}
theorem blk_fn {env : PySem.Env} (h : env.scope.kind = .function) : env.blockKind = .function := by
  unfold Env.blockKind
  rw [h]
  rfl
/-- no comprehension but a list's -/
def lcOnly : Expr → Bool
  | .SetComp _ _ _ _ => false
  | .DictComp _ _ _ _ _ => false
  | _ => true
theorem mE_lcOnly {N : List Str} {sc : Scope} {e : Ex} {a : Expr} (h : mE N G sc e a = true) : lcOnly a = true := by
  cases a with
  | SetComp => cases e <;> simp [mE, mK] at h
  | DictComp => cases e <;> simp [mE, mK] at h
  | _ => rfl
theorem sw_off {a : Expr} {x : Str} {px : Pos} {l : Nat} {env : PySem.Env} (hk : env.scope.kind = .function) (hl : lcOnly a = true) (h : swB env.scope x px a = false) : swapsWith a (some (.Name x px)) l env = pure false := by
  cases a with
  | SetComp => cases hl
  | DictComp => cases hl
  | ListComp elt gs scope pos =>
    unfold swB at h
    have hb := blk_fn hk
    unfold swapsWith
    simp only [hb]
    have e1 : (env.kindOf x == some NameKind.local) = decide (env.scope.names.lookup x = some .local) := by
      rw [Bool.eq_iff_iff, beq_iff_eq, decide_eq_true_eq]
      rfl
    have h' : (((ScopeKind.function == ScopeKind.function && env.kindOf x == some NameKind.local) && px.line == pos.line) && !(scope.names.any fun (n, k) => n == x && (k == .local || k == .cell))) = false := by
      rw [e1]
      simpa using h
    show (pure ((((ScopeKind.function == ScopeKind.function && env.kindOf x == some NameKind.local) && px.line == pos.line) && !(scope.names.any fun (n, k) => n == x && (k == .local || k == .cell)))) : Sem Bool) = pure false
    rw [h']
  | _ => rfl
theorem sw_other {a t : Expr} {l : Nat} {env : PySem.Env} (hl : lcOnly a = true) (ht : ∀ x p, t ≠ .Name x p) : swapsWith a (some t) l env = pure false := by
  cases a with
  | SetComp => cases hl
  | DictComp => cases hl
  | ListComp => cases t <;> first | rfl | exact absurd rfl (ht _ _)
  | _ => rfl
theorem sole_off {a t : Expr} {l : Nat} {env : PySem.Env} (hl : lcOnly a = true) (ht : ∀ x p, t ≠ .Name x p) : swapsWithSole [t] a l env = pure false := sw_other hl ht
theorem sub_assign {o i : Expr} {pos : Pos} {env : PySem.Env} (h : isSlice i = false) : ∀ v, assign (.Subscript o i pos) env v = (do
      let ov ← holding [v] (eval o env)
      let iv ← holding [v, ov] (eval i env)
      standAt pos
      holding [v, ov, iv] (setItem ov iv v)
      release [v, ov, iv] []) := by
  intro v
  cases i <;> first | rfl | cases h
/-- a comprehension's parts -/
theorem lc_parts {own : Scope} (g : Gd G C k X own) {t : Tg} {it : Itr} {c e : Ex} {ow : List Nat} {elt : Expr} {gens : List Comprehension} {scope : Scope} {pos : Pos} (h : mE X.N G X.env.scope (.lc t it c e ow) (.ListComp elt gens scope pos) = true) :
    ∃ tg iter ifs tt, gens = [⟨tg, iter, ifs, 0⟩] ∧ PI X tg iter (tI C X.K it) ∧ BlkOk X.N X.env.scope scope (ownN X.N ow) ∧ (ownN X.N ow).map (·.2) = ow ∧ (∀ i ∈ t.st, i ∈ ow) ∧ (∀ σ H Q, tT C X.K c σ H Q → tt σ H Q) ∧
      (∀ (s : Shared) (H : Hp) (A : Addr) (cl : List (Str × Addr)) (fp : List Addr), PG (X.blk s H scope (compEnvC scope cl A X.env) fp) tg (tG X.K t)) ∧
      (∀ (s : Shared) (H : Hp) (A : Addr) (cl : List (Str × Addr)) (fp : List Addr), PTs (X.blk s H scope (compEnvC scope cl A X.env) fp) ifs tt) ∧
      (∀ (s : Shared) (H : Hp) (A : Addr) (cl : List (Str × Addr)) (fp : List Addr), PE (X.blk s H scope (compEnvC scope cl A X.env) fp) elt (tE C X.K e)) ∧ (∀ x, foldedSetIterable iter X.env x = pure x) := by
  match gens, h with
  | [⟨tg, iter, ifs, z⟩], h =>
    simp only [mE, Bool.and_eq_true, decide_eq_true_eq] at h
    obtain ⟨⟨⟨⟨⟨⟨⟨rfl, h1⟩, h2⟩, h3⟩, h4⟩, h5⟩, h6⟩, h7⟩ := h
    have ok := blkOk_by h1
    have hst : ∀ i ∈ t.st, i ∈ ow := fun i hi => by
      have := List.all_eq_true.mp h2 i hi
      simpa using this
    have own2 : (ownN X.N ow).map (·.2) = ow := by unfold ownN; rw [List.map_map]; exact List.map_id ow
    have gb := fun (s : Shared) (H : Hp) (A : Addr) (cl : List (Str × Addr)) (fp : List Addr) => Gd.blk g s H scope cl A fp ok.kind
    match ifs, h6 with
    | [], h6 => exact ⟨tg, iter, [], tYes, rfl, sI it g tg iter h5, ok, own2, hst, fun σ H Q q => yes_of h6 q, fun s H A cl fp => (sG (gb s H A cl fp) t).1 tg h3, fun _ _ _ _ _ => pts_nil, fun s H A cl fp => sE e (gb s H A cl fp) elt h7, notSet_fold h4⟩
    | [x], h6 => exact ⟨tg, iter, [x], tT C X.K c, rfl, sI it g tg iter h5, ok, own2, hst, fun σ H Q q => q, fun s H A cl fp => (sG (gb s H A cl fp) t).1 tg h3, fun s H A cl fp => pts_one (sT c (gb s H A cl fp) x h6).1, fun s H A cl fp => sE e (gb s H A cl fp) elt h7, notSet_fold h4⟩
    | _ :: _ :: _, h6 => simp at h6
  | [], h => simp [mE] at h
  | _ :: _ :: _, h => simp [mE] at h
theorem nat_beq {a b : Nat} (h : (a == b) = true) : a = b := beq_iff_eq.mp h
/-- name = value -/
theorem sAsN (g : Gd G C k X X.env.scope) {i : Nat} {e : Ex} {x : Str} {px pos : Pos} {a : Expr} (hi : X.N[i]? = some x) (hs : storB X.env.scope x = true) (h : mE X.N G X.env.scope e a = true) : PS X (.Assign [.Name x px] a pos) (tAsg (tE C X.K e) (gName i)) := by
  obtain ⟨s1, s2⟩ := g.sto x (storB_of hs)
  cases hw : swB X.env.scope x px a with
  | false => exact ps_set g.nd hi s1 (sE e g a h) (sw_off g.kd (mE_lcOnly h) hw) s2
  | true =>
    cases a with
    | ListComp elt gens scope lp =>
      unfold swB at hw
      simp only [Bool.and_eq_true, decide_eq_true_eq, Bool.not_eq_true'] at hw
      cases e with
      | lc t it c e2 ow =>
        obtain ⟨tg, iter, ifs, tt, rfl, pI, ok, own2, hst, htt, pG, pT, pEl, hf⟩ := lc_parts g h
        have z := ps_setLc (py := px) (pos := lp) (spos := pos) g.calm g.nd hi hw.1.1 (sw_true g.kd hw.1.1 hw.1.2 hw.2) pI ok pG pT pEl hf
        rw [own2] at z
        exact PS.imp z fun D σ H q => core_lc hst htt q
      | k c => simp [mE, mK] at h
      | _ => simp [mE] at h
    | _ => cases hw
theorem stores_off {t a : Expr} {env : PySem.Env} (h : (isTupV t && isTupV a) = false) (hl : ∀ es p, t ≠ .List es p) : swappedStores [t] a env = pure none := by
  cases t with
  | Tuple es kk p => cases a <;> first | rfl | cases h
  | List es p => exact absurd rfl (hl es p)
  | _ => rfl
theorem each_one {t : Expr} {env : PySem.Env} : (assignEach [t] env).map (·.2) = [assign t env] ∨ notStar t = false := by
  cases t <;> first | exact .inl rfl | exact .inr rfl
theorem par_stores {x y : Str} {px py tp p2 : Pos} {kt k2 : Nat} {u v : Expr} {env : PySem.Env} (hk : env.scope.kind = .function) (hx : env.scope.names.lookup x = some .local) (hy : env.scope.names.lookup y = some .local) (hl : (px.line == py.line) = true) (n1 : notStar u = true) (n2 : notStar v = true)
    (hf : (foldedForSure 8 u && foldedForSure 8 v) = false) (hc : (constantsAlone 8 u && constantsAlone 8 v) = false) (hxy : (x == y) = false) : swappedStores [.Tuple [.Name x px, .Name y py] kt tp] (.Tuple [u, v] k2 p2) env = pure (some [x, y]) := by
  have hb := blk_fn hk
  have kx : env.kindOf x = some .local := hx
  have ky : env.kindOf y = some .local := hy
  have hyx : (y == x) = false := by
    cases e : y == x with
    | false => rfl
    | true =>
      have := eq_of_beq e
      subst this
      rw [e] at hxy
      cases hxy
  have hl2 : (py.line == px.line) = true := by
    have := nat_beq hl
    rw [this]
    exact beq_self_eq_true _
  unfold swappedStores
  simp only [hb, kx, ky, hl2, hf, hc, hyx, hxy, List.length_cons, List.length_nil, List.filterMap_cons, List.filterMap_nil, List.head?_cons, Option.map_some, Option.getD_some, Expr.pos, beq_self_eq_true, List.all_cons, List.all_nil, Bool.and_true, Bool.true_and, List.eraseDups_cons, if_true]
  rw [if_neg (by decide), if_neg (by
    rw [List.any_cons, List.any_cons, List.any_nil, Bool.or_false, Bool.or_eq_true]
    rintro (z | z)
    · cases u <;> first | cases n1; done | cases z
    · cases v <;> first | cases n2; done | cases z)]
  simp [hf, hc, hyx]
  intro h
  exact absurd (by simp [List.eraseDups_cons]) h
theorem core_cons_two {K : PySem.W.Frag} {a b : Ex} {σ : SG} {H : Hp} {Q : List V → Hp → Prop} (h : tEs C K (.cons a (.cons b .nil)) σ H Q) : tCons (tE C K a) (tCons (tE C K b) tNil) σ H Q := by
  obtain ⟨F, r, w, r', wd, he, q⟩ := core_cons h
  refine ⟨F, r, w, r', wd, he, fun v F1 H1 p => ?_⟩
  obtain ⟨F2, r2, w2, r2', wd2, he2, q2⟩ := core_cons (q v F1 H1 p)
  exact ⟨F2, r2, w2, r2', wd2, he2, fun v2 F3 H3 p3 => core_nil (q2 v2 F3 H3 p3)⟩
theorem sAs {t : Tg} {e : Ex} (g : Gd G C k X X.env.scope) (st : Stmt) (h : mAs X.N G X.env.scope t e st = true) : PS X st (tS C X.K (.as t e)) := by
  unfold mAs at h
  split at h
  · rename_i tg a pos
    simp only [Bool.and_eq_true, Bool.not_eq_true'] at h
    obtain ⟨⟨h1, h2⟩, h3⟩ := h
    cases t with
    | nm i =>
      cases tg with
      | Name x px =>
        simp only [mT, Bool.and_eq_true, decide_eq_true_eq] at h1
        exact PS.imp (sAsN g h1.1 h1.2 h2) fun D σ H q => by
          obtain ⟨F, r, w, r', wd, he, q⟩ := sc_as q
          exact ⟨F, r, w, r', wd, he, fun v F1 H1 p => ga_nm (q v F1 H1 p)⟩
      | _ => simp [mT] at h1
    | tup ta tb =>
      cases tg with
      | Tuple es kk tp =>
        have hG := (sG g (.tup ta tb)).1 _ h1
        refine PS.imp (ps_asg (sE e g a h2) hG (sole_off (t := .Tuple es kk tp) (mE_lcOnly h2) fun _ _ => nofun) (stores_off (t := .Tuple es kk tp) h3 fun _ _ => nofun) rfl) fun D σ H q => ?_
        obtain ⟨F, r, w, r', wd, he, q⟩ := sc_as q
        exact ⟨F, r, w, r', wd, he, fun v F1 H1 p => ga_tup (q v F1 H1 p)⟩
      | _ => simp [mT] at h1
    | tupn => cases tg <;> simp [mT] at h1
  · cases h
theorem sSx {i : Nat} {x e : Ex} (g : Gd G C k X X.env.scope) (st : Stmt) (h : mSx X.N G X.env.scope i x e st = true) : PS X st (tS C X.K (.sx i x e)) := by
  unfold mSx at h
  split at h
  · rename_i n np ix sp a pos
    simp only [Bool.and_eq_true, Bool.not_eq_true'] at h
    obtain ⟨⟨⟨h1, h2⟩, h3⟩, h4⟩ := h
    exact PS.imp (ps_asg (sE e g a h4) (pg_sub (mV_of h1) (sE x g ix h3) set_list (sub_assign h2)) (sole_off (t := .Subscript (.Name n np) ix sp) (mE_lcOnly h4) fun _ _ => nofun) rfl rfl) fun D σ H q => sc_sx q
  · cases h
theorem loc2_of {i : Nat} {x : Str} {N : List Str} {sc : Scope} (h : loc2 N sc i x = true) : N[i]? = some x ∧ sc.names.lookup x = some .local := by
  unfold loc2 at h
  simpa using h
theorem sPar {i j : Nat} {ea eb : Ex} (g : Gd G C k X X.env.scope) (st : Stmt) (h : mPar X.N G X.env.scope i j ea eb st = true) : PS X st (tS C X.K (.par i j ea eb)) := by
  unfold mPar at h
  split at h
  · rename_i x px y py kt tp u v k2 p2 pos
    simp only [Bool.and_eq_true, Bool.not_eq_true'] at h
    obtain ⟨⟨⟨⟨⟨⟨⟨⟨⟨h1, h2⟩, h3⟩, h4⟩, h5⟩, h6⟩, h7⟩, h8⟩, h9⟩, h10⟩ := h
    obtain ⟨n1, l1⟩ := loc2_of h1
    obtain ⟨n2, l2⟩ := loc2_of h2
    have hij : i ≠ j := fun e => by
      subst e
      rw [n1] at n2
      cases n2
      simp at h10
    have hA := pa_cons (sE ea g u h6) (pa_cons (sE eb g v h7) pa_nil (star_cons h5)) (star_cons h4)
    exact PS.imp (ps_par g.calm g.nd n1 n2 hij l1 l2 hA (par_stores g.kd l1 l2 h3 h4 h5 h8 h9 h10) rfl) fun D σ H q => by
      obtain ⟨_, F, r, w, r', wd, he, q⟩ := sc_par q
      exact core_cons_two ⟨F, r, w, r', wd, he, q⟩
  · cases h
mutual
theorem sS : ∀ (s : S) (g : Gd G C k X X.env.scope) (hp : PassesOwn (model X.prog X.w) X.A X.env X.xe) (a : Stmt), mS X.N G X.env.scope s a = true → PS X a (tS C X.K s)
  | .as t e, g, hp, st, h => sAs g st (by simpa [mS] using h)
  | .par i j ea eb, g, hp, st, h => sPar g st (by simpa [mS] using h)
  | .sx i x e, g, hp, st, h => sSx g st (by simpa [mS] using h)
  | .ex e, g, hp, st, h => by
    cases st with
    | Expr a pos =>
      simp only [mS, Bool.and_eq_true] at h
      exact PS.imp (ps_expr (sE e g a h.2) (by have := h.1; cases a <;> first | rfl | cases this)) fun D σ H q => sc_ex q
    | _ => simp [mS] at h
  | .rt e, g, hp, st, h => by
    cases st with
    | Return v pos =>
      cases v with
      | none =>
        have : e = .k .none := isNoneE_of (by simpa [mS] using h)
        subst this
        exact PS.imp ps_retN fun D σ H q => sc_rtN q
      | some a => exact PS.imp (ps_ret (sE e g a (by simpa [mS] using h))) fun D σ H q => sc_rt q
    | _ => simp [mS] at h
  | .iff c a b, g, hp, st, h => by
    cases st with
    | If t x y pos =>
      simp only [mS, Bool.and_eq_true] at h
      exact PS.imp (ps_if (sT c g t h.1.1).1 (sB a g hp x h.1.2) (sB b g hp y h.2)) fun D σ H q => sc_iff q
    | _ => simp [mS] at h
  | .fo t it b kill, g, hp, st, h => by
    cases st with
    | For tg iter body orelse pos =>
      cases orelse with
      | cons => simp [mS] at h
      | nil =>
        simp only [mS, Bool.and_eq_true] at h
        obtain ⟨⟨⟨h1, h2⟩, h3⟩, h4⟩ := h
        exact PS.imp (ps_for hp g.calm (sI it g tg iter h3) ((sG g t).1 tg h1) (sB b g hp body h4) (notSet_fold h2)) fun D σ H q => sc_fo q
    | _ => simp [mS] at h
  | .wh c b kill, g, hp, st, h => by
    cases st with
    | While t body orelse pos =>
      cases orelse with
      | cons => simp [mS] at h
      | nil =>
        simp only [mS, Bool.and_eq_true] at h
        exact PS.imp (ps_while hp (sT c g t h.1).1 (sB b g hp body h.2)) fun D σ H q => sc_wh q
    | _ => simp [mS] at h
  | .nv, g, hp, st, h => ⟨fun _ _ _ _ _ _ q => (sc_nv q).elim⟩
theorem sB : ∀ (b : Ss) (g : Gd G C k X X.env.scope) (hp : PassesOwn (model X.prog X.w) X.A X.env X.xe) (as : List Stmt), mB X.N G X.env.scope b as = true → PSs X as (tB C X.K b)
  | .nil, g, hp, as, h => by
    cases as with
    | nil => exact PSs.imp pss_nil fun D σ H q => sc_nil q
    | cons => simp [mB] at h
  | .cons s q, g, hp, as, h => by
    cases as with
    | nil => simp [mB] at h
    | cons a as =>
      simp only [mB, Bool.and_eq_true] at h
      exact PSs.imp (pss_cons (sS s g hp a h.1) (sB q g hp as h.2)) fun D σ H q => sc_cons q
end
end
end Bx

set_option Elab.async false
set_option linter.all false
set_option maxRecDepth 100000
set_option autoImplicit false
set_option maxHeartbeats 4000000
/-! A def keeps its promise; a program's defs; the law's end. -/
namespace Bx
open PySem PySem.Spec PyProof.Rows L2

section
variable {K : PySem.W.Frag} {F H F' H' : Hp} {ws r : Env} {vs : List V} {σ' : SG}
theorem start_at {N : List Str} {i : Nat} (h : i < vs.length) : (start N vs)[i]? = (vs.map some)[i]? := by
  unfold L2.start
  rw [List.getElem?_append_left (by simpa using h)]
theorem pad_at {n i : Nat} {x : Sl} (h : (ws ++ List.replicate n Sl.no)[i]? = some x) : (i < ws.length ∧ ws[i]? = some x) ∨ (ws.length ≤ i ∧ x = .no) := by
  by_cases hi : i < ws.length
  · rw [List.getElem?_append_left hi] at h
    exact .inl ⟨hi, h⟩
  · rw [List.getElem?_append_right (by omega), List.getElem?_replicate] at h
    split at h
    · exact .inr ⟨by omega, (Option.some.inj h).symm⟩
    · cases h
theorem own_pad {N : List Str} {n : Nat} (hl : ws.length = vs.length) {a : Addr} (h : Own (ws ++ List.replicate n Sl.no) (start N vs) a) : Own ws (vs.map some) a := by
  obtain ⟨i, d, h1, h2⟩ := h
  rcases pad_at h1 with ⟨hi, e⟩ | ⟨_, e⟩
  · rw [start_at (by omega)] at h2
    exact ⟨i, d, e, h2⟩
  · cases e
theorem pad_own {N : List Str} {n : Nat} (hl : ws.length = vs.length) {a : Addr} (h : Own ws (vs.map some) a) : Own (ws ++ List.replicate n Sl.no) (start N vs) a := by
  obtain ⟨i, d, h1, h2⟩ := h
  have hi : i < ws.length := (List.getElem?_eq_some_iff.mp h1).1
  exact ⟨i, d, by rw [List.getElem?_append_left hi]; exact h1, by rw [start_at (by omega)]; exact h2⟩
theorem wd_pad {N : List Str} {n : Nat} (w : Wd K F H ws (vs.map some)) (hn : n = N.length - vs.length) : Wd K F H (ws ++ List.replicate n Sl.no) (start N vs) := by
  have hl : ws.length = vs.length := by rw [w.len, List.length_map]
  refine ⟨w.le, ?_, fun i x h => ?_, fun i j d d' a h1 h2 h3 h4 => ?_⟩
  · unfold L2.start
    rw [List.length_append, List.length_append, List.length_replicate, List.length_replicate, List.length_map, hl, hn]
  · rcases pad_at h with ⟨hi, e⟩ | ⟨_, rfl⟩
    · have q := w.sl i x e
      have st := start_at (N := N) (vs := vs) (i := i) (by omega)
      cases x with
      | no => trivial
      | fr d => obtain ⟨v, e1, z⟩ := q; exact ⟨v, st.trans e1, z⟩
      | ow d => obtain ⟨v, e1, z⟩ := q; exact ⟨v, st.trans e1, z⟩
      | lk k => exact q.elim
      | ln k => exact q.elim
    · trivial
  · rcases pad_at h1 with ⟨hi, e⟩ | ⟨_, e⟩
    · rcases pad_at h2 with ⟨hj, e'⟩ | ⟨_, e'⟩
      · rw [start_at (by omega)] at h3 h4
        exact w.inj i j d d' a e e' h3 h4
      · cases e'
    · cases e
theorem finals_at : ∀ {ws r : List Sl} {i : Nat} {x : Sl}, (finals ws r)[i]? = some x → x = .no ∨ ((∃ d, ws[i]? = some (Sl.ow d)) ∧ r[i]? = some x)
  | [], r, i, x, h => by simp [finals] at h
  | w :: ws, [], i, x, h => by cases w <;> simp [finals] at h
  | w :: ws, f :: r, 0, x, h => by
    cases w with
    | ow d =>
      simp [finals] at h
      exact .inr ⟨⟨d, rfl⟩, by simp [h]⟩
    | _ => simp [finals] at h; exact .inl h.symm
  | w :: ws, f :: r, i + 1, x, h => by
    have h' : (finals ws r)[i]? = some x := by cases w <;> simpa [finals] using h
    rcases finals_at h' with e | ⟨⟨d, e1⟩, e2⟩
    · exact .inl e
    · exact .inr ⟨⟨d, by simpa using e1⟩, by simpa using e2⟩
theorem finals_len : ∀ {ws r : List Sl}, ws.length ≤ r.length → (finals ws r).length = ws.length
  | [], r, h => by cases r <;> rfl
  | w :: ws, [], h => by simp at h
  | w :: ws, f :: r, h => by
    have := finals_len (ws := ws) (r := r) (by simpa using h)
    cases w <;> simp [finals, this]
theorem lentOk_at {asg : List Nat} : ∀ {ws : List Sl} {k i : Nat} {d : PyData}, lentOk asg k ws = true → ws[i]? = some (Sl.ow d) → k + i ∉ asg
  | [], k, i, d, h, e => by simp at e
  | w :: ws, k, 0, d, h, e => by
    simp at e
    subst e
    simp only [lentOk, Bool.and_eq_true, Bool.not_eq_true', List.contains_eq_mem, decide_eq_false_iff_not] at h
    exact h.1
  | w :: ws, k, i + 1, d, h, e => by
    have h' : lentOk asg (k + 1) ws = true := by
      cases w with
      | ow d => simp only [lentOk, Bool.and_eq_true] at h; exact h.2
      | _ => exact h
    have := lentOk_at h' (i := i) (d := d) (by simpa using e)
    rwa [show k + 1 + i = k + (i + 1) by omega] at this
/-- the end of a body, as the call's -/
theorem fin_pe {N : List Str} {n : Nat} {st asg : List Nat} {w : Sl} {v : V} (wd : Wd K F H ws (vs.map some)) (p : Ps K F H (ws ++ List.replicate n Sl.no) (start N vs) st r σ' F' H') (hl : ws.length ≤ r.length) (ha : lentOk asg 0 ws = true) (hst : ∀ j ∈ st, j ∈ asg)
    (hw : isV w = true) (rv : RpV K F' H' r σ' w v) (nw : Nw (ws ++ List.replicate n Sl.no) (start N vs) H w v) : Pe K F H ws (vs.map some) (finals ws r) w v F' H' := by
  have hlen : ws.length = vs.length := by rw [wd.len, List.length_map]
  have sg : ∀ {i : Nat} {d : PyData}, ws[i]? = some (Sl.ow d) → (vs.map some)[i]? = σ'[i]? := fun {i d} e => by
    have hi : i < ws.length := (List.getElem?_eq_some_iff.mp e).1
    have := lentOk_at ha e
    rw [p.ag i fun m => this (by simpa using hst i m), start_at (by omega)]
  have back : ∀ {a : Addr}, Own (finals ws r) (vs.map some) a → Own r σ' a := fun {a} ⟨i, d, h1, h2⟩ => by
    rcases finals_at h1 with e | ⟨⟨d0, e1⟩, e2⟩
    · cases e
    · exact ⟨i, d, e2, by rw [← sg e1]; exact h2⟩
  refine ⟨Fr.weak p.fr fun a k => .inl (own_pad hlen k), ⟨p.wd.le, by rw [finals_len hl, List.length_map, hlen], fun i x h => ?_, fun i j d d' a h1 h2 h3 h4 => ?_⟩, fun a ⟨i, d, h1, h2⟩ => ?_, ?_, ?_⟩
  · rcases finals_at h with rfl | ⟨⟨d0, e1⟩, e2⟩
    · trivial
    · have q := p.wd.sl i x e2
      cases x with
      | no => trivial
      | fr d => obtain ⟨u, z1, z2⟩ := q; exact ⟨u, (sg e1).trans z1, z2⟩
      | ow d => obtain ⟨u, z1, z2⟩ := q; exact ⟨u, (sg e1).trans z1, z2⟩
      | lk k => exact q.elim
      | ln k => exact q.elim
  · rcases finals_at h1 with e | ⟨⟨d0, e1⟩, e2⟩
    · cases e
    rcases finals_at h2 with e | ⟨⟨d0', e1'⟩, e2'⟩
    · cases e
    exact p.wd.inj i j d d' a e2 e2' ((sg e1).symm.trans h3) ((sg e1').symm.trans h4)
  · rcases finals_at h1 with e | ⟨⟨d0, e1⟩, e2⟩
    · cases e
    · exact ⟨i, d0, e1, h2⟩
  · cases w with
    | fr d => exact rv
    | ow d =>
      obtain ⟨a, ea, o, no⟩ := rv
      exact ⟨a, ea, o, fun k => no (back k)⟩
    | _ => cases hw
  · cases w with
    | ow d =>
      intro a ea
      rcases nw a ea with k | k
      · exact .inl k
      · exact .inr (own_pad hlen k)
    | _ => trivial
end

/-! ### a def -/
/-- what the evaluator's run of one def promises -/
def spR (C : Call) (K : PySem.W.Frag) (fn : Fn) : List V → Hp → VK → Prop := fun vs H Q =>
  ∃ F ws w fs, Wd K F H ws (vs.map some) ∧ runFn C fn ws = some (w, fs) ∧ ∀ v F' H', Pe K F H ws (vs.map some) fs w v F' H' → Q v H'
/-- the run's body -/
theorem run_body {C : Call} {K : PySem.W.Frag} {fn : Fn} {N : List Str} {vs : List V} {H : Hp} {Q : VK} (hns : fn.ns = N.length) (hst : ∀ j ∈ fn.body.st, j ∈ fn.asg) (h : spR C K fn vs H Q) :
    tB C K fn.body { nx := fun _ H' => Q .non H', rt := Q } (start N vs) H := by
  obtain ⟨F, ws, w, fs, wd, he, q⟩ := h
  have hlen : ws.length = vs.length := by rw [wd.len, List.length_map]
  unfold runFn at he
  split at he
  · rename_i hnp
    split at he
    · rename_i hlo
      have wp := wd_pad (N := N) (n := fn.ns - fn.np) wd (by omega)
      split at he
      · rename_i w' r' hb
        split at he
        · rename_i hv
          simp only [Option.some.injEq, Prod.mk.injEq] at he
          obtain ⟨rfl, rfl⟩ := he
          simp only [Bool.and_eq_true, decide_eq_true_eq] at hv
          exact ⟨F, _, _, wp, hb, fun v σ' F' H' p rv nw => q v F' H' (fin_pe wd p (by omega) hlo hst hv.1 rv nw)⟩
        · cases he
      · rename_i r' hb
        split at he
        · rename_i hv
          simp only [Option.some.injEq, Prod.mk.injEq] at he
          obtain ⟨rfl, rfl⟩ := he
          exact ⟨F, _, _, wp, hb, fun σ' F' H' p => q .non F' H' (fin_pe (w := .fr .none) wd p (by omega) hlo hst rfl rfl trivial)⟩
        · cases he
      · cases he
    · cases he
  · cases he
theorem run_len {C : Call} {K : PySem.W.Frag} {fn : Fn} {vs : List V} {H : Hp} {Q : VK} (h : spR C K fn vs H Q) : vs.length = fn.np := by
  obtain ⟨F, ws, w, fs, wd, he, q⟩ := h
  unfold runFn at he
  split at he
  · rename_i hnp
    rw [← hnp, wd.len, List.length_map]
  · cases he
/-- the facts of the globals, for callees at room k -/
structure Gf (G : Gm) (C : Call) (k : Nat) (P : Program) (w : World) (K : PySem.W.Frag) (mg : Str → Option Value) (base : Heap) : Prop where
  funs : ∀ x f, G.funs.lookup x = some f → ∃ a fd ps, mg x = some (.ref a) ∧ PySem.W.keepIn K (.ref a) = true ∧ Binds K fd ps [] ∧ FnG P w K mg base k a fd ps (spF C K f)
  cons : ∀ x c, G.cons.lookup x = some c → ∃ u, mg x = some u ∧ RelV c.v u
  blts : ∀ x, G.blts.contains x = true → mg x = none
/-- A DEF, by the check of its text -/
theorem def_ok {G : Gm} {C : Call} {k : Nat} {P : Program} {w : World} {K : PySem.W.Frag} {mg : Str → Option Value} {base : Heap} {x qual : Str} {params : Arguments} {body : List Stmt} {scope : Scope} {f : Addr} {fd : FuncData} {N ps : List Str} {fn : Fn}
    (D : FunD K x qual params body scope [] [] f fd) (sc : FnScope N ps scope) (gf : Gf G C k P w K mg base) (hm : mB N G scope fn.body body = true) (hst : ∀ j ∈ fn.body.st, j ∈ fn.asg) (hnp : fn.np = ps.length) (hns : fn.ns = N.length) :
    FnG P w K mg base (k + 1) f fd ps (spR C K fn) := by
  obtain ⟨oc, od, dV, kV, doc, pm, an, code, ct, osl, rfl, look, cin, _, _⟩ := D.ex
  refine ⟨fun vs H Q h => by rw [run_len h, hnp], ?_⟩
  intro A outer s H args us vs Q room quiet e0 bt rel prom
  have inK : K.In s.heap := e0.mod.kin.keeps fun a o z => (e0.bs a o z).1
  have nolim : s.heap.NoLimit := e0.mod.nolimit.keeps fun a o z => (e0.bs a o z).1
  have vlen : vs.length = ps.length := by rw [run_len prom, hnp]
  let X : Cx := cxOf CX0 P w K mg base N qual scope f code A outer s H E0
  have places : ∀ y ∈ ps.zip us, scope.names.lookup y.1 = some .local ∨ (scope.names.lookup y.1 = some .cell ∧ ((cellsFrom (s.heap.objs.size + 1) scope.names []).lookup y.1).isSome = true) := by
    intro y hy
    rcases sc.par y.1 (List.of_mem_zip (show (y.1, y.2) ∈ ps.zip us from hy)).1 with z | z
    · exact .inl z
    · exact .inr ⟨z, PySem.W.cellsFrom_some _ _ _ (.inl z)⟩
  have gd : Gd G C k X.nox X.nox.env.scope := {
    calm := rfl
    nd := sc.nd
    gd := quiet
    rm := room.deeper _
    kd := sc.kind
    sto := fun y hy => ⟨hy, .inl rfl⟩
    funs := gf.funs
    cons := gf.cons
    blts := gf.blts }
  have walk : PSs X body (tB C K fn.body) := PSs.nox (sB fn.body gd PassesOwn.never body hm)
  refine codeAny_call_function room.depth (inK _ _ look) rfl sc.co sc.gen rfl (PySem.W.codeRec_of inK cin) (bt _ _ _ _ ?_)
  refine wpAny_newFunctionEnv_cells sc.kind places ?_
  rintro env rfl s1 entered
  refine ⟨nolim.keeps entered.toInCall.keep, codeAny_func ?_⟩
  have I : Inv X [] (start N vs) H s1 := inv_start sc room.hd e0 vlen rel entered
  refine wpAny_mono (walk.run [] s1 (start N vs) H _ I (run_body hns hst prom)) ?_ (fun _ _ z => z)
  intro fl s' ends
  cases fl with
  | ret u =>
    obtain ⟨v, σ', H', J, rv, q⟩ := ends
    exact ⟨v, H', J.os, J.bare, J.base, J.hok, rv, q⟩
  | next =>
    obtain ⟨σ', H', J, q⟩ := ends
    exact ⟨.non, H', J.os, J.bare, J.base, J.hok, rfl, q⟩
  | brk => obtain ⟨_, _, _, q⟩ := ends; exact q.elim
  | cont => obtain ⟨_, _, _, q⟩ := ends; exact q.elim

/-! ### a program -/
/-- a def: its text, its names by slots (parameters first), its run -/
structure Dn where
  d : He.DefD
  N : List Str
  ps : List Str
  fn : Fn
structure Pg where
  ds : List Dn
  cons : List (Str × Cn)
  blts : List Str
def Pg.P (g : Pg) : List Fn := g.ds.map (·.fn)
def nameIx : List Dn → Nat → List (Str × Nat)
  | [], _ => []
  | d :: ds, i => (d.d.name, i) :: nameIx ds (i + 1)
def Pg.G (g : Pg) : Gm := ⟨nameIx g.ds 0, g.cons, g.blts⟩
def Cn.fa (x : Str) : Cn → He.Fa
  | .int i => .int x i
  | .str z => .str x z
  | _ => .free x
def Cn.okC : Cn → Bool
  | .int _ => true
  | .str _ => true
  | _ => false
def Pg.fa (g : Pg) : List He.Fa := (g.ds.map fun d => .glo d.d.name) ++ ((g.cons.map fun c => c.2.fa c.1) ++ g.blts.map .free)
def Pg.fns (g : Pg) : List He.DefD := g.ds.map (·.d)
def scB (N ps : List Str) (sc : Scope) : Bool := decide (sc.kind = .function) && !sc.isCoroutine && !sc.isGenerator && decide N.Nodup && decide (N.take ps.length = ps) && (ps.all fun x => decide (sc.names.lookup x = some .local) || decide (sc.names.lookup x = some .cell)) && (sc.names.all fun y => decide (y.2 ≠ .free))
theorem scB_of {N ps : List Str} {sc : Scope} (h : scB N ps sc = true) : FnScope N ps sc := by
  unfold scB at h
  simp only [Bool.and_eq_true, decide_eq_true_eq, Bool.not_eq_true', List.all_eq_true, Bool.or_eq_true] at h
  obtain ⟨⟨⟨⟨⟨⟨h1, h2⟩, h3⟩, h4⟩, h5⟩, h6⟩, h7⟩ := h
  exact ⟨h1, h2, h3, h4, h5, fun x hx => h6 x hx, fun y hy => h7 y hy⟩
/-- the check of a def's text -/
def Dn.ok (G : Gm) (d : Dn) : Bool := mB d.N G d.d.scope d.fn.body d.d.body && scB d.N d.ps d.d.scope && (d.fn.body.st.all fun j => d.fn.asg.contains j) && decide (d.fn.np = d.ps.length) && decide (d.fn.ns = d.N.length) &&
  d.d.dfl.isEmpty && d.d.kwd.isEmpty && decide (d.d.at_ = (d.d.name, none))
/-- how a def's arguments are bound -/
def Dn.binds (d : Dn) : Prop := ∀ (kV doc pm : Value) (an : Option Addr) (cdv ct : Value) (us : List Value), us.length = d.ps.length → bindArgs (PySem.W.fnOf d.d.name d.d.qual d.d.params d.d.body d.d.scope .none kV doc pm an cdv ct) ⟨us, []⟩ = pure (d.ps.zip us)
structure Pg.Ok (g : Pg) : Prop where
  ds : ∀ d ∈ g.ds, d.ok g.G = true
  bs : ∀ d ∈ g.ds, d.binds
  cs : ∀ c ∈ g.cons, c.2.okC = true
theorem nameIx_of {x : Str} {f : Nat} : ∀ {ds : List Dn} {i : Nat}, (nameIx ds i).lookup x = some f → ∃ j d, ds[j]? = some d ∧ f = i + j ∧ d.d.name = x
  | [], i, h => by simp [nameIx] at h
  | d :: ds, i, h => by
    unfold nameIx at h
    rw [List.lookup_cons] at h
    split at h
    · rename_i e
      cases h
      exact ⟨0, d, rfl, rfl, (eq_of_beq e).symm⟩
    · obtain ⟨j, d', h1, h2, h3⟩ := nameIx_of h
      exact ⟨j + 1, d', by simpa using h1, by omega, h3⟩
section
variable {g : Pg} {P : Program} {w : World} {K : PySem.W.Frag} {mg : Str → Option Value} {base : Heap} {h : Heap}
/-- what the head tells -/
structure Hd (g : Pg) (K : PySem.W.Frag) (mg : Str → Option Value) : Prop where
  fun_ : ∀ (i : Nat) (d : Dn), g.ds[i]? = some d → ∃ fd, FunD K d.d.name d.d.qual d.d.params d.d.body d.d.scope [] [] (He.ga K d.d.name) fd
  glo : ∀ d ∈ g.ds, mg d.d.name = some (.ref (He.ga K d.d.name))
  cons : ∀ x c, g.cons.lookup x = some c → ∃ u, mg x = some u ∧ RelV c.v u
  blts : ∀ x ∈ g.blts, mg x = none
theorem head_facts (ok : g.Ok) (X : K.In h) (G : h.Ns mainGlobals mg) (c : He.SaysD g.fa g.fns K) : Hd g K mg := by
  have fact : ∀ f ∈ g.fa, f.ok K = true := fun f hf => by
    obtain ⟨i, hi⟩ := List.getElem?_of_mem hf
    exact c.fact i hi
  refine ⟨fun i d hd => ?_, fun d hd => ?_, fun x cc hx => ?_, fun x hx => ?_⟩
  · have hm := List.mem_of_getElem? hd
    have o := ok.ds d hm
    unfold Dn.ok at o
    simp only [Bool.and_eq_true, decide_eq_true_eq, List.isEmpty_iff] at o
    obtain ⟨⟨⟨_, o1⟩, o2⟩, o3⟩ := o
    obtain ⟨fd, q⟩ := c.def_ i (d := d.d) (by unfold Pg.fns; rw [List.getElem?_map, hd]; rfl)
    refine ⟨fd, ?_⟩
    unfold He.DefD.dvs He.DefD.kws at q
    rw [o1, o2, o3] at q
    exact q
  · exact He.glo_ok X G (fact (.glo d.d.name) (by unfold Pg.fa; exact List.mem_append_left _ (List.mem_map.mpr ⟨d, hd, rfl⟩)))
  · have hm : (x, cc) ∈ g.cons := PySem.mem_of_lookup hx
    have o := ok.cs _ hm
    have f := fact (cc.fa x) (by unfold Pg.fa; exact List.mem_append_right _ (List.mem_append_left _ (List.mem_map.mpr ⟨(x, cc), hm, rfl⟩)))
    cases cc with
    | int i =>
      obtain ⟨t, e⟩ := He.int_ok X G f
      exact ⟨_, e, t, rfl⟩
    | str z =>
      obtain ⟨t, e⟩ := He.str_ok X G f
      exact ⟨_, e, t, rfl⟩
    | none => cases o
    | bool b => cases o
  · exact He.free_ok X G (fact (.free x) (by unfold Pg.fa; exact List.mem_append_right _ (List.mem_append_right _ (List.mem_map.mpr ⟨x, hx, rfl⟩))))
/-- ALL DEFS keep their promises, to any depth -/
theorem all_ok (ok : g.Ok) (hd : Hd g K mg) : ∀ (k i : Nat) (d : Dn), g.ds[i]? = some d → ∃ fd, Binds K fd d.ps [] ∧ PySem.W.keepIn K (.ref (He.ga K d.d.name)) = true ∧ FnG P w K mg base k (He.ga K d.d.name) fd d.ps (spF (callN g.P k) K i)
  | 0, i, d, h => by
    obtain ⟨fd, D⟩ := hd.fun_ i d h
    have no : ∀ {vs : List V} {H : Hp} {Q : VK}, spF (callN g.P 0) K i vs H Q → False := fun {vs H Q} z => by
      obtain ⟨_, _, _, _, _, e, _⟩ := z
      cases e
    exact ⟨fd, FunD.bindsN D (ok.bs d (List.mem_of_getElem? h)), D.kp, fun vs H Q z => (no z).elim, fun A outer s H args us vs Q _ _ _ _ _ z => (no z).elim⟩
  | k + 1, i, d, h => by
    obtain ⟨fd, D⟩ := hd.fun_ i d h
    have hm := List.mem_of_getElem? h
    have o := ok.ds d hm
    unfold Dn.ok at o
    simp only [Bool.and_eq_true, decide_eq_true_eq] at o
    obtain ⟨⟨⟨⟨⟨⟨⟨o1, o2⟩, o3⟩, o4⟩, o5⟩, _⟩, _⟩, _⟩ := o
    have gf : Gf g.G (callN g.P k) k P w K mg base := by
      refine ⟨fun x f hx => ?_, hd.cons, fun x hx => hd.blts x (by simpa [Pg.G] using hx)⟩
      obtain ⟨j, d', h1, rfl, rfl⟩ := nameIx_of (show (nameIx g.ds 0).lookup x = some f from hx)
      obtain ⟨fd', b1, b2, b3⟩ := all_ok ok hd k j d' h1
      exact ⟨_, fd', d'.ps, hd.glo d' (List.mem_of_getElem? h1), b2, b1, by rw [Nat.zero_add]; exact b3⟩
    have F := def_ok D (scB_of o2) gf o1 (fun j hj => by have := List.all_eq_true.mp o3 j hj; simpa using this) o4 o5
    have e : ∀ {vs : List V} {H : Hp} {Q : VK}, spF (callN g.P (k + 1)) K i vs H Q → spR (callN g.P k) K d.fn vs H Q := fun {vs H Q} z => by
      obtain ⟨F, ws, w', fs, wd, he, q⟩ := z
      refine ⟨F, ws, w', fs, wd, ?_, q⟩
      have : g.P[i]? = some d.fn := by unfold Pg.P; rw [List.getElem?_map, h]; rfl
      simp only [callN, this] at he
      exact he
    exact ⟨fd, FunD.bindsN D (ok.bs d hm), D.kp, fun vs H Q z => F.len vs H Q (e z), fun A outer s H args us vs Q a b c dd ee z => F.run A outer s H args us vs Q a b c dd ee (e z)⟩
end
end Bx

set_option Elab.async false
set_option linter.all false
set_option maxRecDepth 100000
set_option autoImplicit false
set_option maxHeartbeats 4000000
/-! The law's end. -/
namespace Bx
open PySem PySem.Spec PyProof.Rows L2

/-- the script, known to the object (where the module does not hold it already) -/
def scrH (K : PySem.W.Frag) (a : Addr) (vs : List Value) (ns : List Int) : Hp := fun b => if b = a ∧ K.lookup a = none then some (.frz { cls := .type "list", data := .seq vs.toArray } (.lst (ns.map V.int))) else none
theorem scrH_some {K : PySem.W.Frag} {a b : Addr} {vs : List Value} {ns : List Int} {o : HO} (h : scrH K a vs ns b = some o) : b = a ∧ K.lookup a = none ∧ o = .frz { cls := .type "list", data := .seq vs.toArray } (.lst (ns.map V.int)) := by
  unfold scrH at h
  split at h
  · rename_i c
    exact ⟨c.1, c.2, (Option.some.inj h).symm⟩
  · cases h
theorem ints_rpA {K : PySem.W.Frag} {F : Hp} : ∀ ns : List Int, RpA K F (ns.map PyData.int) (ns.map V.int)
  | [] => RpA.nil
  | n :: ns => RpA.cons rfl (ints_rpA ns)
section
variable {P : Program} {w : World} {K : PySem.W.Frag} {mg mb : Str → Option Value} {k : Nat} {fa a : Addr} {fd : FuncData} {x : Str} {C : Call} {i : Nat} {s1 : Shared} {vs : List Value} {ns : List Int} {fs : List Sl}
theorem end_call (inK : K.In s1.heap) (gl : s1.heap.Ns mainGlobals mg) (bl : s1.heap.Ns builtinsNs mb) (bb : ∀ y : Str, y ≠ "__name__" → mb y = bootBuiltins y) (nl : s1.heap.NoLimit) (gens : s1.gens = #[])
    (obj : s1.heap.get? a = some { cls := .type "list", data := .seq vs.toArray }) (are : IntsAre vs ns) (size : ns.length ≤ sizeLine) (room : Room k callerA) (quiet : callerA.guards = some [])
    (F : ∀ base : Heap, Mod K mg base → ∃ fd : FuncData, Binds K fd [x] [] ∧ FnG P w K mg base k fa fd [x] (spF C K i)) (main : C i [.fr (.list (ns.map .int))] = some (.fr (.bool true), fs)) :
    codeAny (model P w) callerA (.call (.ref fa) ⟨[.ref a], []⟩) (fun r s' => r = .ok (.ret (.bool true)) ∧ OldK s1.heap s'.heap ∧ s'.os = s1.os ∧ AllBare s'.gens) s1 := by
  have rel := vals_ints are
  have vlen := are.length
  let T : Hp := scrH K a vs ns
  have held : HOk P w T s1.heap := fun b o hb => by
    obtain ⟨rfl, _, rfl⟩ := scrH_some hb
    exact ⟨obj, by rw [List.length_map]; exact size, vs, _, rel, obj⟩
  have seen : ∀ {b : Addr} {o : Obj}, s1.heap.get? b = some o → T b = none → (hidT s1.heap T).get? b = some o := fun e z => hidT_get e z
  have notDict : ∀ {b : Addr} {o : Obj} {es : Array DictEntry} {ep : Nat}, s1.heap.get? b = some o → o.data = .dict es ep → T b = none := fun {b o es ep} e z => by
    cases q : T b with
    | none => rfl
    | some u =>
      obtain ⟨rfl, _, _⟩ := scrH_some q
      rw [obj] at e
      cases e
      exact nomatch (show Data.seq vs.toArray _ = Data.dict es ep from z)
  have names : ∀ {b : Addr} {m : Str → Option Value}, s1.heap.Ns b m → (hidT s1.heap T).Ns b m := fun {b m} z => by
    obtain ⟨o, es, ep, e1, e2, e3⟩ := z
    exact ⟨o, es, ep, seen e1 (notDict e1 e2), e2, e3⟩
  have inB : K.In (hidT s1.heap T) := fun b o e => seen (inK b o e) (by
    cases q : T b with
    | none => rfl
    | some u =>
      obtain ⟨rfl, z, _⟩ := scrH_some q
      rw [z] at e
      cases e)
  have module : Mod K mg (hidT s1.heap T) := by
    obtain ⟨mc, c1, c2⟩ := nl
    exact ⟨inB, names gl, ⟨mb, names bl, bb⟩, mc, names c1, c2⟩
  have start : Env0 P w K mg (hidT s1.heap T) callerA [] s1 T :=
    { frames := rfl, mod := module, bs := fun b o e => of_hidT e, bsz := Nat.le_of_eq (hidT_size _ _), funs := trivial, frf := fun b hb => absurd hb List.not_mem_nil, hok := held, bare := .of_eq gens }
  -- the script as data
  have frozen : ∃ F0, Same F0 T ∧ Rp K F0 (.list (ns.map .int)) (.ref a) := by
    refine ⟨T, Same.refl _, a, ns.map V.int, rfl, ?_, ints_rpA ns⟩
    cases q : K.lookup a with
    | none => exact .inl (.inr ⟨{ cls := .type "list", data := .seq vs.toArray }, if_pos ⟨rfl, q⟩⟩)
    | some o =>
      have e := inK a o q
      rw [obj] at e
      cases e
      exact .inr ⟨_, vs.toArray, _, q, rfl, rfl, rfl, by rw [List.size_toArray, vlen]; exact size, by simpa using rel⟩
  obtain ⟨F0, le0, rp0⟩ := frozen
  have prom : spF C K i [.ref a] T (fun v _ => v = .bl true) := by
    refine ⟨F0, [.fr (.list (ns.map .int))], _, fs, ⟨le0, rfl, fun j y h => ?_, fun j j' d d' b h1 _ _ _ => ?_⟩, main, fun v F' H' p => p.rp⟩
    · cases j with
      | zero => cases h; exact ⟨.ref a, rfl, rp0⟩
      | succ j => simp at h
    · cases j with
      | zero => cases h1
      | succ j => simp at h1
  obtain ⟨fd, bind, G⟩ := F _ module
  have bt := bind s1 [.ref a] inK rfl
  refine codeAny_mono (G.run callerA [] s1 T ⟨[.ref a], []⟩ [.ref a] [.ref a] _ room quiet start bt (.cons rfl .nil) prom) ?_
  intro r s' ends
  cases r with
  | error e => exact ends.elim
  | ok fl =>
    cases fl with
    | ret u =>
      obtain ⟨v, H', os, bare, un, hok', ru, q⟩ := ends
      have q' : v = .bl true := q
      subst q'
      cases (show u = Value.bool true from ru)
      refine ⟨rfl, OldK.of_keep fun b o e => ?_, os, bare⟩
      cases q : T b with
      | none => exact un.keep b o e q (fun z => absurd z List.not_mem_nil) List.not_mem_nil
      | some t =>
        obtain ⟨rfl, _, rfl⟩ := scrH_some q
        obtain ⟨e2, _⟩ := hok' b _ (un.frzs b _ _ q)
        rw [obj] at e
        cases e
        exact e2
    | next => exact False.elim ends
    | brk => exact False.elim ends
    | cont => exact False.elim ends
end
/-- THE LAW: the evaluator answers True at every script -/
theorem law_walk {l : PySem.W.OpenLaw} {n k i : Nat} {q : Program} {loose : List Str} {XP : (Str → Option Value) → Heap → Prop} {d : DefRec} {x : Str} {g : Pg} {dn : Dn} {m : Nat}
    (ok : g.Ok) (hi : g.ds[i]? = some dn) (hnm : d.name = dn.d.name) (hps : dn.ps = [x]) (hn : l.most = some n) (hn2 : n ≤ sizeLine) (hdf : d.params.defaults = []) (room : Room k callerA)
    (main : ∀ ns : List Int, ns.length ≤ n → (∀ z ∈ ns, Builtin.Int.intBits z ≤ 1048576) → ∃ fs, callN g.P k i [.fr (.list (ns.map .int))] = some (.fr (.bool true), fs)) :
    PySem.W.WalkO q loose XP (He.hookD m g.fa g.fns).says l.row.toRowW d [] (fun f vs => PySem.call f vs) := by
  refine Att.attach_callB hn hdf fun w s₀ s₁ mg mb fa o pm cd doc a vs ns G Y ho hd hcd hmg hobj hints hlen hbits hg => ?_
  obtain ⟨K, inK, says⟩ := Y
  have H := head_facts ok inK G.T.g says
  have efa : fa = He.ga K dn.d.name := by
    have z := H.glo dn (List.mem_of_getElem? hi)
    rw [hnm, z] at hmg
    cases hmg
    rfl
  subst efa
  obtain ⟨fs, e⟩ := main ns hlen hbits
  refine end_call (x := x) inK G.T.g G.T.b G.T.builtins G.T.nolimit hg hobj hints (Nat.le_trans hlen hn2) room rfl (fun base mod => ?_) e
  obtain ⟨fd, b1, _, b3⟩ := all_ok (P := l.prog) (w := w) (base := base) ok H k i dn hi
  rw [hps] at b1 b3
  exact ⟨fd, b1, b3⟩
end Bx

set_option Elab.async false
set_option linter.all false
set_option maxRecDepth 100000
set_option autoImplicit false
set_option maxHeartbeats 4000000
/-! The evaluator step by step (rows to rewrite with), loops, data. -/
namespace Bx
open PySem PySem.Spec
def foF (C : Call) (t : Tg) (b : Ss) : PyData → Env → Option Rs := fun x r => match asgT t x r with
  | some r2 => evB C b r2
  | none => none
section
variable (C : Call) (r : Env)

@[simp] theorem e_k (c : Cn) : evE C (.k c) r = some (.fr c.d, r) := rfl
@[simp] theorem e_v (i : Nat) : evE C (.v i) r = match r[i]? with
    | some (.fr d) => some (.fr d, r)
    | some (.ow d) => some (.fr d, r.set i (.fr d))
    | _ => none := rfl
@[simp] theorem e_mv (i : Nat) : evE C (.mv i) r = match r[i]? with
    | some (.fr d) => some (.fr d, r)
    | some (.ow d) => some (.ow d, r.set i .no)
    | _ => none := rfl
@[simp] theorem e_bw (i : Nat) : evE C (.bw i) r = match r[i]? with
    | some (.fr _) => some (.lk i, r)
    | some (.ow _) => some (.lk i, r)
    | _ => none := rfl
@[simp] theorem e_ln (i : Nat) : evE C (.ln i) r = match r[i]? with
    | some (.ow _) => some (.ln i, r)
    | _ => none := rfl
@[simp] theorem e_tup (es : Exs) : evE C (.tup es) r = match evEs C es r with
    | some (ws, r1) => match fzL ws with
      | some ds => if ds.length ≤ SZ then some (.fr (.tuple ds), r1) else none
      | none => none
    | none => none := rfl
@[simp] theorem e_lst (es : Exs) : evE C (.lst es) r = match evEs C es r with
    | some (ws, r1) => match fzL ws with
      | some ds => if ds.length ≤ SZ then some (.ow (.list ds), r1) else none
      | none => none
    | none => none := rfl
@[simp] theorem e_bin (o : BOp) (a b : Ex) : evE C (.bin o a b) r = match evE C a r with
    | some (x, r1) => match evE C b r1 with
      | some (y, r2) => match see r2 x, see r2 y with
        | some d, some e => match binD o d e with
          | some w => some (w, r2)
          | none => none
        | _, _ => none
      | none => none
    | none => none := rfl
@[simp] theorem e_neg (a : Ex) : evE C (.neg a) r = match evE C a r with
    | some (.fr (.int i), r1) => some (.fr (.int (-i)), r1)
    | _ => none := rfl
@[simp] theorem e_nt (a : Ex) : evE C (.nt a) r = match evE C a r with
    | some (.fr (.bool b), r1) => some (.fr (.bool (!b)), r1)
    | _ => none := rfl
@[simp] theorem e_cmp (o : COp) (a b : Ex) : evE C (.cmp o a b) r = match evE C a r with
    | some (x, r1) => match evE C b r1 with
      | some (y, r2) => match see r2 x, see r2 y with
        | some d, some e => match cmpD o d e with
          | some c => some (.fr (.bool c), r2)
          | none => none
        | _, _ => none
      | none => none
    | none => none := rfl
@[simp] theorem e_ch (o p : COp) (a b c : Ex) : evE C (.ch o p a b c) r = match evE C a r with
    | some (x, r1) => match evE C b r1 with
      | some (y, r2) => match see r2 x, see r2 y with
        | some d, some e => match cmpD o d e with
          | some true => match evE C c r2 with
            | some (z, r3) => match see r3 y, see r3 z with
              | some e', some g => match cmpD p e' g with
                | some h => some (.fr (.bool h), r3)
                | none => none
              | _, _ => none
            | none => none
          | some false => some (.fr (.bool false), r2)
          | none => none
        | _, _ => none
      | none => none
    | none => none := rfl
@[simp] theorem e_an (a b : Ex) : evE C (.an a b) r = match evE C a r with
    | some (.fr (.bool true), r1) => match evE C b r1 with
      | some (.fr (.bool c), r2) => some (.fr (.bool c), r2)
      | _ => none
    | some (.fr (.bool false), r1) => some (.fr (.bool false), r1)
    | _ => none := rfl
@[simp] theorem e_orr (a b : Ex) : evE C (.orr a b) r = match evE C a r with
    | some (.fr (.bool true), r1) => some (.fr (.bool true), r1)
    | some (.fr (.bool false), r1) => match evE C b r1 with
      | some (.fr (.bool c), r2) => some (.fr (.bool c), r2)
      | _ => none
    | _ => none := rfl
@[simp] theorem e_ix (a b : Ex) : evE C (.ix a b) r = match evE C a r with
    | some (x, r1) => match evE C b r1 with
      | some (y, r2) => match see r2 x, see r2 y with
        | some d, some e => match idxD d e with
          | some g => some (.fr g, r2)
          | none => none
        | _, _ => none
      | none => none
    | none => none := rfl
@[simp] theorem e_sl (a lo hi : Ex) : evE C (.sl a lo hi) r = match evE C a r with
    | some (x, r1) => match evE C lo r1 with
      | some (.fr y, r2) => match evE C hi r2 with
        | some (.fr z, r3) => match see r3 x, partD lo y, partD hi z with
          | some d, some l, some h => match sliceD d l h with
            | some w => some (w, r3)
            | none => none
          | _, _, _ => none
        | _ => none
      | _ => none
    | none => none := rfl
@[simp] theorem e_call (f : Nat) (es : Exs) : evE C (.call f es) r = match evEs C es r with
    | some (ws, r1) => callE C f ws r1
    | none => none := rfl
@[simp] theorem e_bt (b : Bt) (es : Exs) : evE C (.bt b es) r = match evEs C es r with
    | some (ws, r1) => match seeL r1 ws with
      | some ds => match btD b ds with
        | some w => some (w, r1)
        | none => none
      | none => none
    | none => none := rfl
@[simp] theorem e_isi (a : Ex) (ts : List Ty) : evE C (.isi a ts) r = match evE C a r with
    | some (x, r1) => match see r1 x with
      | some d => some (.fr (.bool (ts.any (isTy d))), r1)
      | none => none
    | none => none := rfl
@[simp] theorem e_mu (m : Mu) (i : Nat) (es : Exs) : evE C (.mu m i es) r = match r[i]? with
    | some (.ow (.list _)) => match evEs C es r with
      | some (ws, r1) => match r1[i]? with
        | some (.ow (.list xs)) => match muA m r1 ws with
          | some ds => match muD m xs ds with
            | some (y, ys) => some (.fr y, r1.set i (.ow (.list ys)))
            | none => none
          | none => none
        | _ => none
      | none => none
    | _ => none := rfl
@[simp] theorem e_lc (t : Tg) (it : Itr) (c e : Ex) (own : List Nat) : evE C (.lc t it c e own) r = match evI C it r with
    | some (xs, hs, r1) => match compL (lcF C t c e own) xs [] (killS (hide r1 hs) own) with
      | some (ys, r5) => some (.ow (.list ys), back r1 r5 hs)
      | none => none
    | none => none := rfl
@[simp] theorem i_ov (e : Ex) : evI C (.ov e) r = match evE C e r with
    | some (w, r1) => match see r1 w with
      | some d => match itemsOf d with
        | some xs => some (xs, ownLk r1 [w], r1)
        | none => none
      | none => none
    | none => none := rfl
@[simp] theorem i_rg (es : Exs) : evI C (.rg es) r = match evEs C es r with
    | some (ws, r1) => match seeL r1 ws with
      | some ds => match rangeD ds with
        | some xs => some (xs, [], r1)
        | none => none
      | none => none
    | none => none := rfl
@[simp] theorem i_zp (es : Exs) : evI C (.zp es) r = match evEs C es r with
    | some (ws, r1) => match seeL r1 ws with
      | some ds => match zipD ds with
        | some xs => some (xs, ownLk r1 ws, r1)
        | none => none
      | none => none
    | none => none := rfl
@[simp] theorem i_en (e : Ex) : evI C (.en e) r = match evE C e r with
    | some (w, r1) => match see r1 w with
      | some d => match enumD d with
        | some xs => some (xs, ownLk r1 [w], r1)
        | none => none
      | none => none
    | none => none := rfl
@[simp] theorem s_as (t : Tg) (e : Ex) : evS C (.as t e) r = match evE C e r with
    | some (w, r1) => match asg t w r1 with
      | some r2 => some (.nx r2)
      | none => none
    | none => none := rfl
@[simp] theorem s_par (i j : Nat) (a b : Ex) : evS C (.par i j a b) r = match evEs C (.cons a (.cons b .nil)) r with
    | some (ws, r1) => match fzL ws with
      | some [d, e] => if i ≠ j ∧ i < r1.length ∧ j < r1.length then some (.nx ((r1.set i (.fr d)).set j (.fr e))) else none
      | _ => none
    | none => none := rfl
@[simp] theorem s_sx (i : Nat) (x e : Ex) : evS C (.sx i x e) r = match evE C e r with
    | some (w, r1) => match fz w, r1[i]? with
      | some d, some (.ow _) => match evE C x r1 with
        | some (.fr (.int k), r2) => match r2[i]? with
          | some (.ow (.list xs)) => match L2.ixN xs.length k with
            | some j => some (.nx (r2.set i (.ow (.list (xs.set j d)))))
            | none => none
          | _ => none
        | _ => none
      | _, _ => none
    | none => none := rfl
@[simp] theorem s_ex (e : Ex) : evS C (.ex e) r = match evE C e r with
    | some (_, r1) => some (.nx r1)
    | none => none := rfl
@[simp] theorem s_rt (e : Ex) : evS C (.rt e) r = match evE C e r with
    | some (.fr d, r1) => some (.rt (.fr d) r1)
    | some (.ow d, r1) => some (.rt (.ow d) r1)
    | _ => none := rfl
@[simp] theorem s_iff (c : Ex) (a b : Ss) : evS C (.iff c a b) r = match evE C c r with
    | some (.fr (.bool true), r1) => evB C a r1
    | some (.fr (.bool false), r1) => evB C b r1
    | _ => none := rfl
@[simp] theorem s_fo (t : Tg) (it : Itr) (b : Ss) (kill : List Nat) : evS C (.fo t it b kill) r = match evI C it r with
    | some (xs, hs, r1) =>
      if hs.all (fun i => !(t.st ++ b.st).contains i) then
        match forL (foF C t b) kill xs (hide r1 hs) with
        | some q => some (backR r1 hs q)
        | none => none
      else none
    | none => none := rfl
@[simp] theorem s_wh (c : Ex) (b : Ss) (kill : List Nat) : evS C (.wh c b kill) r = whileL (evE C c) (evB C b) kill TURNS r := rfl
@[simp] theorem s_nv  : evS C (.nv) r = none := rfl
@[simp] theorem es_nil : evEs C .nil r = some ([], r) := rfl
@[simp] theorem es_cons (e : Ex) (es : Exs) : evEs C (.cons e es) r = match evE C e r with
    | some (w, r1) => match evEs C es r1 with
      | some (ws, r2) => some (w :: ws, r2)
      | none => none
    | none => none := rfl
@[simp] theorem b_nil : evB C .nil r = some (.nx r) := rfl
@[simp] theorem b_cons (s : S) (q : Ss) : evB C (.cons s q) r = match evS C s r with
    | some (.nx r1) => evB C q r1
    | some (.rt w r1) => some (.rt w r1)
    | none => none := rfl
end
/-! ### small rows -/
section
variable (C : Call) (r : Env)
@[simp] theorem run_mk (np ns : Nat) (b : Ss) (asg : List Nat) (ws : List Sl) : runFn C ⟨np, ns, b, asg⟩ ws = if ws.length = np then
    if lentOk asg 0 ws then
      match evB C b (ws ++ List.replicate (ns - np) .no) with
      | some (.rt w r) => if isV w && decide (np ≤ r.length) then some (w, finals ws r) else none
      | some (.nx r) => if np ≤ r.length then some (.fr .none, finals ws r) else none
      | none => none
    else none
  else none := rfl
@[simp] theorem sz_0 : 0 ≤ SZ := by decide
@[simp] theorem sz_1 : 1 ≤ SZ := by decide
@[simp] theorem sz_2 : 2 ≤ SZ := by decide
@[simp] theorem sz_3 : 3 ≤ SZ := by decide
@[simp] theorem sz_4 : 4 ≤ SZ := by decide
@[simp] theorem sz_5 : 5 ≤ SZ := by decide
@[simp] theorem sz_6 : 6 ≤ SZ := by decide
@[simp] theorem sz_7 : 7 ≤ SZ := by decide
@[simp] theorem sz_8 : 8 ≤ SZ := by decide
@[simp] theorem sz_9 : 9 ≤ SZ := by decide
@[simp] theorem sz_10 : 10 ≤ SZ := by decide
@[simp] theorem sz_11 : 11 ≤ SZ := by decide
@[simp] theorem sz_12 : 12 ≤ SZ := by decide
@[simp] theorem sz_13 : 13 ≤ SZ := by decide
@[simp] theorem sz_14 : 14 ≤ SZ := by decide
@[simp] theorem sz_15 : 15 ≤ SZ := by decide
@[simp] theorem lo_nil (asg : List Nat) (i : Nat) : lentOk asg i [] = true := rfl
@[simp] theorem lo_ow (asg : List Nat) (i : Nat) (d : PyData) (ws : List Sl) : lentOk asg i (.ow d :: ws) = (!asg.contains i && lentOk asg (i + 1) ws) := rfl
@[simp] theorem lo_fr (asg : List Nat) (i : Nat) (d : PyData) (ws : List Sl) : lentOk asg i (.fr d :: ws) = lentOk asg (i + 1) ws := rfl
@[simp] theorem fi_nil (fs : List Sl) : finals [] fs = [] := by cases fs <;> rfl
@[simp] theorem fi_ow (d : PyData) (ws : List Sl) (f : Sl) (fs : List Sl) : finals (.ow d :: ws) (f :: fs) = f :: finals ws fs := rfl
@[simp] theorem fi_fr (d : PyData) (ws : List Sl) (f : Sl) (fs : List Sl) : finals (.fr d :: ws) (f :: fs) = .no :: finals ws fs := rfl
@[simp] theorem iv_fr (d : PyData) : isV (.fr d) = true := rfl
@[simp] theorem iv_ow (d : PyData) : isV (.ow d) = true := rfl
@[simp] theorem see_fr (d : PyData) : see r (.fr d) = some d := rfl
@[simp] theorem see_ow (d : PyData) : see r (.ow d) = some d := rfl
@[simp] theorem see_lk (i : Nat) : see r (.lk i) = match r[i]? with
    | some (.fr d) => some d
    | some (.ow d) => some d
    | _ => none := rfl
@[simp] theorem seeL_nil : seeL r [] = some [] := rfl
@[simp] theorem seeL_cons (w : Sl) (ws : List Sl) : seeL r (w :: ws) = match see r w, seeL r ws with
    | some d, some ds => some (d :: ds)
    | _, _ => none := rfl
@[simp] theorem fz_fr (d : PyData) : fz (.fr d) = some d := rfl
@[simp] theorem fz_ow (d : PyData) : fz (.ow d) = some d := rfl
@[simp] theorem fzL_nil : fzL [] = some [] := rfl
@[simp] theorem fzL_cons (w : Sl) (ws : List Sl) : fzL (w :: ws) = match fz w, fzL ws with
    | some d, some ds => some (d :: ds)
    | _, _ => none := rfl
@[simp] theorem d_int (i : Int) : (Cn.int i).d = .int i := rfl
@[simp] theorem d_bool (i : Bool) : (Cn.bool i).d = .bool i := rfl
@[simp] theorem d_str (i : Str) : (Cn.str i).d = .str i := rfl
@[simp] theorem d_none : Cn.none.d = .none := rfl
@[simp] theorem bin_add (i j : Int) : binD .add (.int i) (.int j) = some (.fr (.int (i + j))) := rfl
@[simp] theorem bin_adds (x y : Str) : binD .add (.str x) (.str y) = if x.length + y.length ≤ SZ then some (.fr (.str (x ++ y))) else none := rfl
@[simp] theorem bin_addt (x y : List PyData) : binD .add (.tuple x) (.tuple y) = if x.length + y.length ≤ SZ then some (.fr (.tuple (x ++ y))) else none := rfl
@[simp] theorem bin_addl (x y : List PyData) : binD .add (.list x) (.list y) = if x.length + y.length ≤ SZ then some (.ow (.list (x ++ y))) else none := rfl
@[simp] theorem bin_sub (i j : Int) : binD .sub (.int i) (.int j) = some (.fr (.int (i - j))) := rfl
@[simp] theorem bin_mul (i j : Int) : binD .mul (.int i) (.int j) = if smallI i || smallI j then some (.fr (.int (i * j))) else none := rfl
@[simp] theorem bin_fdiv (i j : Int) : binD .fdiv (.int i) (.int j) = if 0 < j ∧ j < 1073741824 then some (.fr (.int (i / j))) else none := rfl
@[simp] theorem bin_mod (i j : Int) : binD .mod (.int i) (.int j) = if 0 < j then some (.fr (.int (i % j))) else none := rfl
@[simp] theorem bin_pow (i j : Int) : binD .pow (.int i) (.int j) = if 0 ≤ j ∧ j ≤ 1000000 ∧ i.natAbs < 2 ^ 64 then some (.fr (.int (i ^ j.toNat))) else none := rfl
@[simp] theorem bin_shl (i j : Int) : binD .shl (.int i) (.int j) = if 0 ≤ j ∧ j ≤ 1000000 ∧ i.natAbs < 2 ^ 64 then some (.fr (.int (i * 2 ^ j.toNat))) else none := rfl
@[simp] theorem small_num (n : Nat) : smallI (no_index (@OfNat.ofNat Int n instOfNat)) = decide (n < 18446744073709551616) := rfl
@[simp] theorem small_0 : smallI 0 = true := by decide
@[simp] theorem small_1 : smallI 1 = true := by decide
@[simp] theorem small_neg (i : Int) : smallI (-i) = smallI i := by unfold smallI; rw [Int.natAbs_neg]
@[simp] theorem cmp_eq (x y : PyData) : cmpD .eq x y = if okD x && okD y then some (PyData.eqv x y) else none := rfl
@[simp] theorem cmp_ne (x y : PyData) : cmpD .ne x y = if okD x && okD y then some (!PyData.eqv x y) else none := rfl
@[simp] theorem cmp_lt (i j : Int) : cmpD .lt (.int i) (.int j) = some (decide (i < j)) := rfl
@[simp] theorem cmp_le (i j : Int) : cmpD .le (.int i) (.int j) = some (decide (i ≤ j)) := rfl
@[simp] theorem cmp_gt (i j : Int) : cmpD .gt (.int i) (.int j) = some (decide (j < i)) := rfl
@[simp] theorem cmp_ge (i j : Int) : cmpD .ge (.int i) (.int j) = some (decide (j ≤ i)) := rfl
@[simp] theorem cmp_isb (a b : Bool) : cmpD .is (.bool a) (.bool b) = some (a == b) := rfl
@[simp] theorem cmp_isnb (a b : Bool) : cmpD .isnot (.bool a) (.bool b) = some (!(a == b)) := rfl
@[simp] theorem cmp_isinl (x : PyData) (ys : List PyData) : cmpD .isin x (.list ys) = if okD x && okD (.list ys) then some (ys.any fun y => PyData.eqv y x) else none := rfl
@[simp] theorem cmp_isint (x : PyData) (ys : List PyData) : cmpD .isin x (.tuple ys) = if okD x && okD (.tuple ys) then some (ys.any fun y => PyData.eqv y x) else none := rfl
@[simp] theorem cmp_notinl (x : PyData) (ys : List PyData) : cmpD .notin x (.list ys) = if okD x && okD (.list ys) then some (!ys.any fun y => PyData.eqv y x) else none := rfl
@[simp] theorem cmp_notint (x : PyData) (ys : List PyData) : cmpD .notin x (.tuple ys) = if okD x && okD (.tuple ys) then some (!ys.any fun y => PyData.eqv y x) else none := rfl
@[simp] theorem idx_l (xs : List PyData) (i : Int) : idxD (.list xs) (.int i) = L2.atI xs i := rfl
@[simp] theorem idx_t (xs : List PyData) (i : Int) : idxD (.tuple xs) (.int i) = L2.atI xs i := rfl
@[simp] theorem part_none (d : PyData) : partD (.k .none) d = some none := rfl
@[simp] theorem sl_l (xs : List PyData) (lo hi : Option Int) : sliceD (.list xs) lo hi = some (.ow (.list (cutL xs lo hi))) := rfl
@[simp] theorem sl_t (xs : List PyData) (lo hi : Option Int) : sliceD (.tuple xs) lo hi = some (.fr (.tuple (cutL xs lo hi))) := rfl
theorem part_int (e : Ex) (h : isNoneE e = false) (i : Int) : partD e (.int i) = some (some i) := by unfold partD; rw [h]; rfl
@[simp] theorem part_k (c i : Int) : partD (.k (.int c)) (.int i) = some (some i) := rfl
@[simp] theorem part_v (j : Nat) (i : Int) : partD (.v j) (.int i) = some (some i) := rfl
@[simp] theorem part_bin (o : BOp) (a b : Ex) (i : Int) : partD (.bin o a b) (.int i) = some (some i) := rfl
@[simp] theorem part_ix (a b : Ex) (i : Int) : partD (.ix a b) (.int i) = some (some i) := rfl
@[simp] theorem part_neg (a : Ex) (i : Int) : partD (.neg a) (.int i) = some (some i) := rfl
@[simp] theorem part_bt (a : Bt) (es : Exs) (i : Int) : partD (.bt a es) (.int i) = some (some i) := rfl
@[simp] theorem part_call (a : Nat) (es : Exs) (i : Int) : partD (.call a es) (.int i) = some (some i) := rfl
@[simp] theorem ints_map (l : List Int) : intsOf (l.map PyData.int) = some l := by
  induction l with
  | nil => rfl
  | cons x l ih => simp [intsOf, ih]
@[simp] theorem ints_nil : intsOf [] = some [] := rfl
@[simp] theorem ints_cons (i : Int) (l : List PyData) : intsOf (.int i :: l) = match intsOf l with
    | some l => some (i :: l)
    | none => none := rfl
@[simp] theorem bools_map (l : List Bool) : boolsOf (l.map PyData.bool) = some l := by
  induction l with
  | nil => rfl
  | cons x l ih => simp [boolsOf, ih]
@[simp] theorem bt_lenl (xs : List PyData) : btD .len [.list xs] = some (.fr (.int xs.length)) := rfl
@[simp] theorem bt_lent (xs : List PyData) : btD .len [.tuple xs] = some (.fr (.int xs.length)) := rfl
@[simp] theorem bt_sum1 (xs : List PyData) : btD .sum1 [.list xs] = match intsOf xs with
    | some ns => some (.fr (.int ns.sum))
    | none => none := rfl
@[simp] theorem bt_min1 (xs : List PyData) : btD .min1 [.list xs] = match intsOf xs with
    | some (n :: ns) => some (.fr (.int (ns.foldl min n)))
    | _ => none := rfl
@[simp] theorem bt_max1 (xs : List PyData) : btD .max1 [.list xs] = match intsOf xs with
    | some (n :: ns) => some (.fr (.int (ns.foldl max n)))
    | _ => none := rfl
@[simp] theorem bt_min2 (i j : Int) : btD .min2 [.int i, .int j] = some (.fr (.int (min i j))) := rfl
@[simp] theorem bt_max2 (i j : Int) : btD .max2 [.int i, .int j] = some (.fr (.int (max i j))) := rfl
@[simp] theorem bt_abs (i : Int) : btD .abs [.int i] = some (.fr (.int (i.natAbs : Int))) := rfl
@[simp] theorem bt_int (i : Int) : btD .int1 [.int i] = some (.fr (.int i)) := rfl
@[simp] theorem bt_intb (b : Bool) : btD .int1 [.bool b] = some (.fr (.int (if b then 1 else 0))) := rfl
@[simp] theorem bt_sorted (xs : List PyData) : btD .sorted [.list xs] = if sortOk xs then some (.ow (.list (xs.mergeSort (PySem.W.dataLe false id)))) else none := rfl
@[simp] theorem bt_repr (x : PyData) : btD .repr [x] = if reprOk x then some (.fr (.str x.shown)) else none := rfl
@[simp] theorem bt_list (xs : List PyData) : btD .list1 [.list xs] = some (.ow (.list xs)) := rfl
@[simp] theorem bt_listt (xs : List PyData) : btD .list1 [.tuple xs] = some (.ow (.list xs)) := rfl
@[simp] theorem bt_tup (xs : List PyData) : btD .tuple1 [.list xs] = some (.fr (.tuple xs)) := rfl
@[simp] theorem bt_tupt (xs : List PyData) : btD .tuple1 [.tuple xs] = some (.fr (.tuple xs)) := rfl
@[simp] theorem bt_all (xs : List PyData) : btD .all [.list xs] = match boolsOf xs with
    | some bs => some (.fr (.bool (bs.all id)))
    | none => none := rfl
@[simp] theorem bt_any (xs : List PyData) : btD .any [.list xs] = match boolsOf xs with
    | some bs => some (.fr (.bool (bs.any id)))
    | none => none := rfl
@[simp] theorem mu_append (xs : List PyData) (y : PyData) : muD .append xs [y] = if xs.length < SZ then some (.none, xs ++ [y]) else none := rfl
@[simp] theorem mu_extend (xs ys : List PyData) : muD .extend xs [.list ys] = if xs.length + ys.length ≤ SZ then some (.none, xs ++ ys) else none := rfl
@[simp] theorem mu_pop (xs : List PyData) : muD .pop xs [] = match xs[xs.length - 1]? with
    | some y => some (y, xs.dropLast)
    | none => none := rfl
@[simp] theorem mu_reverse (xs : List PyData) : muD .reverse xs [] = some (.none, xs.reverse) := rfl
@[simp] theorem mu_clear (xs : List PyData) : muD .clear xs [] = some (.none, []) := rfl
@[simp] theorem mua_ext (ws : List Sl) : muA .extend r ws = seeL r ws := rfl
@[simp] theorem mua_app (ws : List Sl) : muA .append r ws = fzL ws := rfl
@[simp] theorem mua_pop (ws : List Sl) : muA .pop r ws = fzL ws := rfl
@[simp] theorem mua_rev (ws : List Sl) : muA .reverse r ws = fzL ws := rfl
@[simp] theorem mua_clr (ws : List Sl) : muA .clear r ws = fzL ws := rfl
@[simp] theorem at_nm (i : Nat) (d : PyData) : asgT (.nm i) d r = if i < r.length then some (r.set i (.fr d)) else none := rfl
@[simp] theorem at_tup (a b : Tg) (x : PyData) (xs : List PyData) : asgT (.tup a b) (.tuple (x :: xs)) r = match asgT a x r with
    | some r1 => asgT b (.tuple xs) r1
    | none => none := rfl
@[simp] theorem at_tupn : asgT .tupn (.tuple []) r = some r := rfl
@[simp] theorem as_nmf (i : Nat) (d : PyData) : asg (.nm i) (.fr d) r = if i < r.length then some (r.set i (.fr d)) else none := rfl
@[simp] theorem as_nmo (i : Nat) (d : PyData) : asg (.nm i) (.ow d) r = if i < r.length then some (r.set i (.ow d)) else none := rfl
@[simp] theorem as_tup (a b : Tg) (w : Sl) : asg (.tup a b) w r = match see r w with
    | some d => asgT (.tup a b) d r
    | none => none := by cases w <;> rfl
@[simp] theorem ar_fr (d : PyData) : argOf r (.fr d) = some (.fr d) := rfl
@[simp] theorem ar_ow (d : PyData) : argOf r (.ow d) = some (.fr d) := rfl
@[simp] theorem ar_lk (i : Nat) : argOf r (.lk i) = match r[i]? with
    | some (.fr d) => some (.fr d)
    | some (.ow d) => some (.fr d)
    | _ => none := rfl
@[simp] theorem ar_ln (i : Nat) : argOf r (.ln i) = match r[i]? with
    | some (.ow d) => some (.ow d)
    | _ => none := rfl
@[simp] theorem ars_nil : argsOf r [] = some [] := rfl
@[simp] theorem ars_cons (w : Sl) (ws : List Sl) : argsOf r (w :: ws) = match argOf r w, argsOf r ws with
    | some a, some l => some (a :: l)
    | _, _ => none := rfl
@[simp] theorem le_nil : lents [] = [] := rfl
@[simp] theorem le_fr (d : PyData) (ws : List Sl) : lents (.fr d :: ws) = lents ws := rfl
@[simp] theorem le_ow (d : PyData) (ws : List Sl) : lents (.ow d :: ws) = lents ws := rfl
@[simp] theorem le_lk (d : Nat) (ws : List Sl) : lents (.lk d :: ws) = lents ws := rfl
@[simp] theorem le_ln (d : Nat) (ws : List Sl) : lents (.ln d :: ws) = d :: lents ws := rfl
@[simp] theorem ol_nil : ownLk r [] = [] := rfl
@[simp] theorem ol_fr (d : PyData) (ws : List Sl) : ownLk r (.fr d :: ws) = ownLk r ws := rfl
@[simp] theorem ol_ow (d : PyData) (ws : List Sl) : ownLk r (.ow d :: ws) = ownLk r ws := rfl
@[simp] theorem ol_ln (d : Nat) (ws : List Sl) : ownLk r (.ln d :: ws) = ownLk r ws := rfl
@[simp] theorem ol_lk (i : Nat) (ws : List Sl) : ownLk r (.lk i :: ws) = match r[i]? with
    | some (.ow _) => i :: ownLk r ws
    | _ => ownLk r ws := rfl
@[simp] theorem nd_nil : nodupB [] = true := rfl
@[simp] theorem nd_cons (i : Nat) (l : List Nat) : nodupB (i :: l) = (!l.contains i && nodupB l) := rfl
@[simp] theorem gb_nil (fs : List Sl) : giveBack r [] fs = r := by cases fs <;> rfl
@[simp] theorem gb_ln (i : Nat) (ws : List Sl) (f : Sl) (fs : List Sl) : giveBack r (.ln i :: ws) (f :: fs) = giveBack (r.set i f) ws fs := rfl
@[simp] theorem gb_lk (i : Nat) (ws : List Sl) (f : Sl) (fs : List Sl) : giveBack r (.lk i :: ws) (f :: fs) = giveBack r ws fs := rfl
@[simp] theorem gb_fr (i : PyData) (ws : List Sl) (f : Sl) (fs : List Sl) : giveBack r (.fr i :: ws) (f :: fs) = giveBack r ws fs := rfl
@[simp] theorem gb_ow (i : PyData) (ws : List Sl) (f : Sl) (fs : List Sl) : giveBack r (.ow i :: ws) (f :: fs) = giveBack r ws fs := rfl
@[simp] theorem fa_nil : freezeAt r [] = r := rfl
@[simp] theorem fa_cons (i : Nat) (l : List Nat) : freezeAt r (i :: l) = match r[i]? with
    | some (.ow d) => freezeAt (r.set i (.fr d)) l
    | _ => freezeAt r l := rfl
@[simp] theorem ca_eq (f : Nat) (ws : List Sl) : callE C f ws r = match argsOf r ws with
  | none => none
  | some as =>
    if nodupB (lents ws) && (ownLk r ws).all fun i => !(lents ws).contains i then
      match C f as with
      | none => none
      | some (w, fs) =>
        if isV w && decide (fs.length = ws.length) then
          if flatW w && fs.all flatW then some (w, giveBack r ws fs)
          else some (w, giveBack (freezeAt r (ownLk r ws)) ws fs)
        else none
    else none := rfl
@[simp] theorem fw_fr (d : PyData) : flatW (.fr d) = flat d := rfl
@[simp] theorem fw_no : flatW .no = true := rfl
@[simp] theorem fw_ow (xs : List PyData) : flatW (.ow (.list xs)) = flatAll xs := rfl
@[simp] theorem fl_int (i : Int) : flat (.int i) = true := rfl
@[simp] theorem fl_bool (i : Bool) : flat (.bool i) = true := rfl
@[simp] theorem fl_str (i : Str) : flat (.str i) = true := rfl
@[simp] theorem fl_none : flat .none = true := rfl
@[simp] theorem fl_list (xs : List PyData) : flat (.list xs) = false := rfl
@[simp] theorem fl_tup (xs : List PyData) : flat (.tuple xs) = flatAll xs := rfl
@[simp] theorem fl_nil : flatAll [] = true := rfl
@[simp] theorem fl_cons (x : PyData) (xs : List PyData) : flatAll (x :: xs) = (flat x && flatAll xs) := rfl
@[simp] theorem fl_map {α : Type} (g : α → PyData) (h : ∀ a, flat (g a) = true) (l : List α) : flatAll (l.map g) = true := by
  induction l with
  | nil => rfl
  | cons x l ih => rw [List.map_cons, fl_cons, h, ih]; rfl
@[simp] theorem hi_nil : hide r [] = r := rfl
@[simp] theorem hi_cons (i : Nat) (l : List Nat) : hide r (i :: l) = hide (r.set i .no) l := rfl
@[simp] theorem ki_nil : killS r [] = r := rfl
@[simp] theorem ki_cons (i : Nat) (l : List Nat) : killS r (i :: l) = killS (r.set i .no) l := rfl
@[simp] theorem ba_nil (o : Env) : back o r [] = r := rfl
@[simp] theorem ba_cons (o : Env) (i : Nat) (l : List Nat) : back o r (i :: l) = back o (r.set i (o.getD i .no)) l := rfl
@[simp] theorem br_nx (o : Env) (hs : List Nat) : backR o hs (.nx r) = .nx (back o r hs) := rfl
@[simp] theorem br_rt (o : Env) (hs : List Nat) (w : Sl) : backR o hs (.rt w r) = .rt w (back o r hs) := rfl
@[simp] theorem st_as (t : Tg) (e : Ex) : (S.as t e).st = t.st := rfl
@[simp] theorem st_par (i j : Nat) (a b : Ex) : (S.par i j a b).st = [i, j] := rfl
@[simp] theorem st_sx (i : Nat) (a b : Ex) : (S.sx i a b).st = [] := rfl
@[simp] theorem st_ex (e : Ex) : (S.ex e).st = [] := rfl
@[simp] theorem st_rt (e : Ex) : (S.rt e).st = [] := rfl
@[simp] theorem st_nv : S.nv.st = [] := rfl
@[simp] theorem st_iff (e : Ex) (a b : Ss) : (S.iff e a b).st = a.st ++ b.st := rfl
@[simp] theorem st_fo (t : Tg) (it : Itr) (b : Ss) (k : List Nat) : (S.fo t it b k).st = t.st ++ b.st := rfl
@[simp] theorem st_wh (c : Ex) (b : Ss) (k : List Nat) : (S.wh c b k).st = b.st := rfl
@[simp] theorem st_nil : Ss.nil.st = [] := rfl
@[simp] theorem st_cons (s : S) (q : Ss) : (Ss.cons s q).st = s.st ++ q.st := rfl
@[simp] theorem st_nm (i : Nat) : (Tg.nm i).st = [i] := rfl
@[simp] theorem st_tup (a b : Tg) : (Tg.tup a b).st = a.st ++ b.st := rfl
@[simp] theorem st_tupn : Tg.tupn.st = [] := rfl
@[simp] theorem ti_i (i : Int) : isTy (.int i) .int = true := rfl
@[simp] theorem ti_b (i : Bool) : isTy (.bool i) .int = true := rfl
@[simp] theorem ti_bb (i : Bool) : isTy (.bool i) .bool = true := rfl
@[simp] theorem ti_ib (i : Int) : isTy (.int i) .bool = false := rfl
@[simp] theorem ti_is (i : Int) : isTy (.int i) .str = false := rfl
@[simp] theorem ti_il (i : Int) : isTy (.int i) .list = false := rfl
@[simp] theorem ti_it (i : Int) : isTy (.int i) .tuple = false := rfl
@[simp] theorem ti_ll (i : List PyData) : isTy (.list i) .list = true := rfl
@[simp] theorem ti_lt (i : List PyData) : isTy (.list i) .tuple = false := rfl
@[simp] theorem ti_tt (i : List PyData) : isTy (.tuple i) .tuple = true := rfl
@[simp] theorem ti_tl (i : List PyData) : isTy (.tuple i) .list = false := rfl
@[simp] theorem ti_ti (i : List PyData) : isTy (.tuple i) .int = false := rfl
@[simp] theorem ti_li (i : List PyData) : isTy (.list i) .int = false := rfl
@[simp] theorem items_l (xs : List PyData) : itemsOf (.list xs) = some xs := rfl
@[simp] theorem items_t (xs : List PyData) : itemsOf (.tuple xs) = some xs := rfl
@[simp] theorem rg_1 (j : Int) : rangeD [.int j] = if -(2 ^ 62) ≤ j ∧ j < 2 ^ 62 then some ((List.range j.toNat).map fun (i : Nat) => .int (i : Int)) else none := rfl
@[simp] theorem rg_2 (a b : Int) : rangeD [.int a, .int b] = if -(2 ^ 62) ≤ a ∧ a < 2 ^ 62 ∧ -(2 ^ 62) ≤ b ∧ b < 2 ^ 62 then some ((List.range (b - a).toNat).map fun (i : Nat) => .int (a + (i : Int))) else none := rfl
@[simp] theorem zp_l (xs ys : List PyData) : zipD [.list xs, .list ys] = some ((xs.zip ys).map fun p => .tuple [p.1, p.2]) := rfl
@[simp] theorem zp_t (xs ys : List PyData) : zipD [.tuple xs, .tuple ys] = some ((xs.zip ys).map fun p => .tuple [p.1, p.2]) := rfl
@[simp] theorem en_l (xs : List PyData) : enumD (.list xs) = some (enumFrom 0 xs) := rfl
@[simp] theorem fo_eq (t : Tg) (b : Ss) (x : PyData) : foF C t b x r = match asgT t x r with
  | some r2 => evB C b r2
  | none => none := rfl
@[simp] theorem at3_0 {α : Type} (x y z : α) : L2.atI [x, y, z] 0 = some x := rfl
@[simp] theorem at3_1 {α : Type} (x y z : α) : L2.atI [x, y, z] 1 = some y := rfl
@[simp] theorem at3_2 {α : Type} (x y z : α) : L2.atI [x, y, z] 2 = some z := rfl
@[simp] theorem at2_0 {α : Type} (x y : α) : L2.atI [x, y] 0 = some x := rfl
@[simp] theorem at2_1 {α : Type} (x y : α) : L2.atI [x, y] 1 = some y := rfl
@[simp] theorem at1_0 {α : Type} (x : α) : L2.atI [x] 0 = some x := rfl
@[simp] theorem ix3_0 : L2.ixN 3 0 = some 0 := rfl
@[simp] theorem ix3_1 : L2.ixN 3 1 = some 1 := rfl
@[simp] theorem ix3_2 : L2.ixN 3 2 = some 2 := rfl
end
theorem small_in {i : Int} (h1 : -18446744073709551616 < i) (h2 : i < 18446744073709551616) : smallI i = true := by
  unfold smallI
  exact decide_eq_true (by omega)
theorem ixN_in {n : Nat} {i : Int} (h0 : 0 ≤ i) (h1 : i < n) : L2.ixN n i = some i.toNat := by
  unfold L2.ixN
  rw [if_pos h0, if_pos h1]
theorem atI_in {α : Type} {xs : List α} {i : Int} (h0 : 0 ≤ i) (h1 : i < xs.length) : ∃ x, L2.atI xs i = some x ∧ x ∈ xs := by
  unfold L2.atI
  rw [ixN_in h0 h1]
  have : i.toNat < xs.length := by omega
  exact ⟨xs[i.toNat], by simp [List.getElem?_eq_getElem this], List.getElem_mem this⟩
theorem atI_map {α β : Type} {xs : List α} {g : α → β} {i : Int} : L2.atI (xs.map g) i = (L2.atI xs i).map g := by
  unfold L2.atI
  rw [List.length_map]
  cases L2.ixN xs.length i with
  | none => rfl
  | some j => simp
theorem atI_nat {α : Type} {xs : List α} (i : Nat) : L2.atI xs (i : Int) = xs[i]? := by
  unfold L2.atI
  by_cases h : i < xs.length
  · rw [ixN_in (by omega) (by omega)]
    simp
  · unfold L2.ixN
    rw [if_pos (by omega), if_neg (by omega), List.getElem?_eq_none (by omega)]
    rfl
/-! ### loops -/
theorem while_inv {c : Env → Option (Sl × Env)} {b : Env → Option Rs} {kill : List Nat} {St : Type} (env : St → Env) (P : St → Prop) (Q : Env → Prop) (μ : St → Nat)
    (H : ∀ s, P s → (∃ r1, c (env s) = some (.fr (.bool false), r1) ∧ Q r1) ∨ (∃ r1 r2 s', c (env s) = some (.fr (.bool true), r1) ∧ b r1 = some (.nx r2) ∧ killS r2 kill = env s' ∧ P s' ∧ μ s' < μ s)) :
    ∀ (n : Nat) (s : St), P s → μ s < n → ∃ r, whileL c b kill n (env s) = some (.nx r) ∧ Q r
  | 0, s, _, h => absurd h (Nat.not_lt_zero _)
  | n + 1, s, p, h => by
    rcases H s p with ⟨r1, h1, q⟩ | ⟨r1, r2, s', h1, h2, h3, p', hm⟩
    · exact ⟨r1, by simp only [whileL, h1], q⟩
    · obtain ⟨r, e, q⟩ := while_inv env P Q μ H n s' p' (by omega)
      refine ⟨r, ?_, q⟩
      simp only [whileL, h1, h2, h3]
      exact e
theorem for_inv {f : PyData → Env → Option Rs} {kill : List Nat} {α St : Type} (g : α → PyData) (env : St → Env) (step : St → α → St) (P : List α → St → Prop) :
    ∀ (l : List α) (s : St), P l s → (∀ a l' s, P (a :: l') s → P l' (step s a) ∧ ∃ r2, f (g a) (env s) = some (.nx r2) ∧ killS r2 kill = env (step s a)) →
      forL f kill (l.map g) (env s) = some (.nx (env (l.foldl step s))) ∧ P [] (l.foldl step s)
  | [], s, p, _ => ⟨rfl, p⟩
  | a :: l, s, p, H => by
    obtain ⟨p', r2, h1, h2⟩ := H a l s p
    obtain ⟨e, q⟩ := for_inv g env step P l (step s a) p' H
    refine ⟨?_, q⟩
    rw [List.map_cons]
    simp only [forL, h1, h2]
    exact e
/-- each turn comes through -/
theorem for_each {f : PyData → Env → Option Rs} {kill : List Nat} {α : Type} (g : α → PyData) (I : Env → Prop) :
    ∀ (l : List α) (r : Env), I r → (∀ a ∈ l, ∀ r, I r → ∃ r2, f (g a) r = some (.nx r2) ∧ I (killS r2 kill)) → ∃ r', forL f kill (l.map g) r = some (.nx r') ∧ I r'
  | [], r, i, _ => ⟨r, rfl, i⟩
  | a :: l, r, i, H => by
    obtain ⟨r2, h1, i2⟩ := H a List.mem_cons_self r i
    obtain ⟨r', e, i'⟩ := for_each g I l _ i2 fun b hb => H b (List.mem_cons_of_mem _ hb)
    refine ⟨r', ?_, i'⟩
    rw [List.map_cons]
    simp only [forL, h1]
    exact e
theorem for_same {f : PyData → Env → Option Rs} {kill : List Nat} {α : Type} (g : α → PyData) (env : Env) : ∀ (l : List α), (∀ a ∈ l, ∃ r2, f (g a) env = some (.nx r2) ∧ killS r2 kill = env) → forL f kill (l.map g) env = some (.nx env)
  | [], _ => rfl
  | a :: l, H => by
    obtain ⟨r2, h1, h2⟩ := H a List.mem_cons_self
    rw [List.map_cons]
    simp only [forL, h1, h2]
    exact for_same g env l fun b hb => H b (List.mem_cons_of_mem _ hb)
theorem comp_map {C : Call} {t : Tg} {c e : Ex} {own : List Nat} {α : Type} (g : α → PyData) (h : α → PyData) (r : Env)
    : ∀ (l : List α) (acc : List PyData), acc.length + l.length ≤ SZ → (∀ a ∈ l, ∃ r2 w r4, asgT t (g a) (killS r own) = some r2 ∧ evE C c r2 = some (.fr (.bool true), r2) ∧ evE C e r2 = some (w, r4) ∧ fz w = some (h a) ∧ killS r4 own = r) →
      compL (lcF C t c e own) (l.map g) acc r = some (acc ++ l.map h, r)
  | [], acc, _, _ => by simp [compL]
  | a :: l, acc, hz, H => by
    obtain ⟨r2, w, r4, h1, h2, h3, h4, h5⟩ := H a List.mem_cons_self
    have := comp_map g h r l (acc ++ [h a]) (by simp at hz ⊢; omega) fun b hb => H b (List.mem_cons_of_mem _ hb)
    rw [List.map_cons]
    have e1 : lcF C t c e own (g a) r = some (some (h a), r) := by
      unfold lcF
      simp only [h1, h2, h3, h4, h5]
    have hz' : acc.length < SZ := by simp at hz; omega
    simp only [compL, e1, if_pos hz']
    rw [this]
    simp
theorem comp_filter {C : Call} {t : Tg} {c e : Ex} {own : List Nat} {α : Type} (g : α → PyData) (p : α → Bool) (h : α → PyData) (r : Env)
    : ∀ (l : List α) (acc : List PyData), acc.length + l.length ≤ SZ → (∀ a ∈ l, ∃ r2 r3, asgT t (g a) (killS r own) = some r2 ∧ evE C c r2 = some (.fr (.bool (p a)), r3) ∧ killS r3 own = r ∧ (p a = true → ∃ w r4, evE C e r3 = some (w, r4) ∧ fz w = some (h a) ∧ killS r4 own = r)) →
      compL (lcF C t c e own) (l.map g) acc r = some (acc ++ (l.filter p).map h, r)
  | [], acc, _, _ => by simp [compL]
  | a :: l, acc, hz, H => by
    obtain ⟨r2, r3, h1, h2, h3, h4⟩ := H a List.mem_cons_self
    have hz' : acc.length < SZ := by simp at hz; omega
    rw [List.map_cons]
    cases hp : p a with
    | true =>
      obtain ⟨w, r4, h5, h6, h7⟩ := h4 hp
      have := comp_filter g p h r l (acc ++ [h a]) (by simp at hz ⊢; omega) fun b hb => H b (List.mem_cons_of_mem _ hb)
      have e1 : lcF C t c e own (g a) r = some (some (h a), r) := by
        unfold lcF
        simp only [h1, h2, hp, h5, h6, h7]
      simp only [compL, e1, if_pos hz']
      rw [this]
      simp [hp]
    | false =>
      have := comp_filter g p h r l acc (by simp at hz ⊢; omega) fun b hb => H b (List.mem_cons_of_mem _ hb)
      have e1 : lcF C t c e own (g a) r = some (none, r) := by
        unfold lcF
        simp only [h1, h2, hp, h3]
      simp only [compL, e1]
      rw [this]
      simp [hp]
end Bx

set_option Elab.async false
set_option linter.all false
set_option maxRecDepth 100000
set_option autoImplicit false
set_option maxHeartbeats 4000000
/-! Data with a Lean type: equal, sorted, shown. -/
namespace Bx
open PySem PySem.Spec PySem.W

mutual
/-- a bound of the text that shows it -/
def cost : PyData → Nat
  | .none => 4
  | .bool _ => 5
  | .int i => i.natAbs.log2 + 2
  | .str x => (PyData.shown (.str x)).length
  | .list xs => costAll xs + 3
  | .tuple xs => costAll xs + 3
  | .dict kvs => (PyData.shown (.dict kvs)).length
def costAll : List PyData → Nat
  | [] => 0
  | x :: xs => cost x + 2 + costAll xs
end
theorem int_len (i : Int) : (PyData.shown (.int i)).length ≤ i.natAbs.log2 + 2 := by
  have h := int_text_length_le (a := i) (k := i.natAbs.log2 + 1) (by omega) (by omega)
  have e : (PyData.shown (.int i)).length = (toString i).length := ofString_length _
  rw [e]
  omega
mutual
theorem shown_len : ∀ d : PyData, d.shown.length ≤ cost d
  | .none => by decide +kernel
  | .bool b => by cases b <;> decide +kernel
  | .int i => int_len i
  | .str x => Nat.le_refl _
  | .list xs => by
    have := listText_len_le (PyData.shownAll xs)
    have h := shownAll_len xs
    show (listText (PyData.shownAll xs)).length ≤ costAll xs + 3
    omega
  | .tuple xs => by
    have := tupleText_len_le (PyData.shownAll xs)
    have h := shownAll_len xs
    show (tupleText (PyData.shownAll xs)).length ≤ costAll xs + 3
    omega
  | .dict kvs => Nat.le_refl _
theorem shownAll_len : ∀ xs : List PyData, ((PyData.shownAll xs).map (·.length)).sum + 2 * (PyData.shownAll xs).length ≤ costAll xs
  | [] => Nat.le_refl _
  | x :: xs => by
    have h1 := shown_len x
    have h2 := shownAll_len xs
    show (x.shown.length + ((PyData.shownAll xs).map (·.length)).sum) + 2 * ((PyData.shownAll xs).length + 1) ≤ cost x + 2 + costAll xs
    omega
end
theorem costAll_map {α : Type} (g : α → PyData) (n : Nat) (l : List α) (h : ∀ a ∈ l, cost (g a) ≤ n) : costAll (l.map g) ≤ l.length * (n + 2) := by
  induction l with
  | nil => exact Nat.zero_le _
  | cons x l ih =>
    have h1 := h x List.mem_cons_self
    have h2 := ih fun a ha => h a (List.mem_cons_of_mem _ ha)
    show cost (g x) + 2 + costAll (l.map g) ≤ (l.length + 1) * (n + 2)
    rw [Nat.succ_mul]
    omega
theorem cost_int {i : Int} {k : Nat} (h : i.natAbs < 2 ^ k) : cost (.int i) ≤ k + 2 := by
  show i.natAbs.log2 + 2 ≤ k + 2
  by_cases h0 : i.natAbs = 0
  · rw [h0]; simp
  · have := (Nat.log2_lt h0).mpr h
    omega
/-- shown within the line -/
def Shw (d : PyData) : Prop := d.plain = true ∧ d.showable = true ∧ cost d ≤ SZ ∧ d.depth ≤ 64
theorem Shw.repr {d : PyData} (h : Shw d) : reprOk d = true := by
  unfold reprOk
  simp only [Bool.and_eq_true, decide_eq_true_eq]
  exact ⟨⟨⟨h.1, h.2.1⟩, Nat.le_trans (shown_len d) h.2.2.1⟩, h.2.2.2⟩
theorem Shw.okD {d : PyData} (h : Shw d) : okD d = true := by
  unfold Bx.okD
  simp only [Bool.and_eq_true, decide_eq_true_eq]
  exact ⟨h.1, h.2.2.2⟩
mutual
theorem eqv_refl : ∀ d : PyData, d.plain = true → PyData.eqv d d = true
  | .none, _ => by simp [PyData.eqv]
  | .bool _, _ => by simp [PyData.eqv]
  | .int _, _ => by simp [PyData.eqv]
  | .str _, _ => by simp [PyData.eqv]
  | .list xs, h => by
    simp only [PyData.eqv]
    exact eqvAll_refl xs (by simpa [PyData.plain] using h)
  | .tuple xs, h => by
    simp only [PyData.eqv]
    exact eqvAll_refl xs (by simpa [PyData.plain] using h)
  | .dict _, h => by simp [PyData.plain] at h
theorem eqvAll_refl : ∀ xs : List PyData, PyData.plainAll xs = true → PyData.eqvAll xs xs = true
  | [], _ => by simp [PyData.eqvAll]
  | x :: xs, h => by
    have h' : x.plain = true ∧ PyData.plainAll xs = true := by simpa [PyData.plainAll] using h
    simp only [PyData.eqvAll, eqv_refl x h'.1, eqvAll_refl xs h'.2, Bool.and_self]
end
theorem showableAll_map {α : Type} (g : α → PyData) (l : List α) (h : ∀ a ∈ l, (g a).showable = true) : PyData.showableAll (l.map g) = true := by
  induction l with
  | nil => rfl
  | cons x l ih =>
    rw [List.map_cons]
    simp only [PyData.showableAll, h x List.mem_cons_self, ih fun a ha => h a (List.mem_cons_of_mem _ ha), Bool.and_self]

/-! ### sorted -/
/-- Python's order told by Lean's -/
class Lin (α : Type) [DecidableEq α] extends DatumOrd α where
  tri : ∀ a b : α, lt a b = false → lt b a = false → a = b
instance : Lin Int where
  tri a b h1 h2 := by
    have h1 : decide (a < b) = false := h1
    have h2 : decide (b < a) = false := h2
    simp at h1 h2
    omega
section
variable {α β : Type} [DecidableEq α] [Lin α] [DecidableEq β] [Lin β]
instance : Lin (α × β) where
  tri p q h1 h2 := by
    have h1 : (if p.1 = q.1 then DatumOrd.lt p.2 q.2 else DatumOrd.lt p.1 q.1) = false := h1
    have h2 : (if q.1 = p.1 then DatumOrd.lt q.2 p.2 else DatumOrd.lt q.1 p.1) = false := h2
    by_cases e : p.1 = q.1
    · rw [if_pos e] at h1
      rw [if_pos e.symm] at h2
      exact Prod.ext e (Lin.tri _ _ h1 h2)
    · rw [if_neg e] at h1
      rw [if_neg fun z => e z.symm] at h2
      exact (e (Lin.tri _ _ h1 h2)).elim
theorem listLt_tri : ∀ xs ys : List α, listLt xs ys = false → listLt ys xs = false → xs = ys
  | [], [], _, _ => rfl
  | [], _ :: _, h, _ => by simp [listLt] at h
  | _ :: _, [], _, h => by simp [listLt] at h
  | x :: xs, y :: ys, h1, h2 => by
    unfold listLt at h1 h2
    by_cases e : x = y
    · subst e
      rw [if_pos rfl] at h1 h2
      rw [listLt_tri xs ys h1 h2]
    · rw [if_neg e] at h1
      rw [if_neg fun z => e z.symm] at h2
      exact (e (Lin.tri _ _ h1 h2)).elim
instance : Lin (List α) where
  tri xs ys h1 h2 := listLt_tri xs ys h1 h2
instance : Lin (Tup α) where
  tri t u h1 h2 := by
    cases t
    cases u
    exact congrArg Tup.mk (listLt_tri _ _ h1 h2)
/-- a ≤ b -/
def leL (a b : α) : Bool := !(DatumOrd.lt b a)
def sortL (l : List α) : List α := l.mergeSort leL
theorem dataLe_toD (a b : α) : dataLe false id (Datum.toD a) (Datum.toD b) = leL a b := by
  show (!dataLt (Datum.toD b) (Datum.toD a)) = !DatumOrd.lt b a
  rw [DatumOrd.lt_eq]
theorem leL_trans (a b c : α) (h1 : leL a b = true) (h2 : leL b c = true) : leL a c = true := by
  rw [← dataLe_toD] at h1 h2 ⊢
  exact (sortLe_total (PyProof.Rows.listOrd PyProof.Rows.itemOrd) false fun b : PyData => keyToks (id b)).trans _ _ _ h1 h2
theorem leL_total (a b : α) : (leL a b || leL b a) = true := by
  rw [← dataLe_toD, ← dataLe_toD]
  exact Bool.or_eq_true_iff.mpr ((sortLe_total (PyProof.Rows.listOrd PyProof.Rows.itemOrd) false fun b : PyData => keyToks (id b)).total _ _)
theorem leL_anti (a b : α) (h1 : leL a b = true) (h2 : leL b a = true) : a = b := by
  unfold leL at h1 h2
  rw [Bool.not_eq_true'] at h1 h2
  exact Lin.tri a b h2 h1
theorem sort_toD (l : List α) : (l.map Datum.toD).mergeSort (dataLe false id) = (sortL l).map Datum.toD :=
  (sort_maps Datum.toD fun a _ b _ => (dataLe_toD a b).symm).symm
theorem sortL_perm (l : List α) : (sortL l).Perm l := List.mergeSort_perm l _
theorem sortL_sorted (l : List α) : (sortL l).Pairwise fun a b => leL a b = true := List.pairwise_mergeSort leL_trans leL_total l
theorem perm_sorted : ∀ {l m : List α}, l.Perm m → l.Pairwise (fun a b => leL a b = true) → m.Pairwise (fun a b => leL a b = true) → l = m
  | [], m, p, _, _ => (List.Perm.nil_eq p)
  | x :: l, [], p, _, _ => by simp at p
  | x :: l, y :: m, p, h1, h2 => by
    have e : x = y := by
      have m1 : x ∈ y :: m := p.subset List.mem_cons_self
      have m2 : y ∈ x :: l := p.symm.subset List.mem_cons_self
      rcases List.mem_cons.mp m1 with e | m1
      · exact e
      rcases List.mem_cons.mp m2 with e | m2
      · exact e.symm
      exact leL_anti x y ((List.pairwise_cons.mp h1).1 y m2) ((List.pairwise_cons.mp h2).1 x m1)
    subst e
    rw [perm_sorted (List.Perm.cons_inv p) (List.pairwise_cons.mp h1).2 (List.pairwise_cons.mp h2).2]
theorem sortL_congr {l m : List α} (p : l.Perm m) : sortL l = sortL m := perm_sorted ((sortL_perm l).trans (p.trans (sortL_perm m).symm)) (sortL_sorted l) (sortL_sorted m)
theorem sortL_of {l : List α} (h : l.Pairwise fun a b => leL a b = true) : sortL l = l := perm_sorted (sortL_perm l) (sortL_sorted l) h
theorem sortOk_toD (l : List α) (hz : l.length ≤ SZ) (hd : Datum.depth α ≤ 64) (hk : (∀ a : α, ∃ x xs, Datum.toD a = .tuple (x :: xs)) ∨ (∀ a : α, (match Datum.toD a with | .none => false | .tuple _ => false | _ => true) = true)) : sortOk (l.map Datum.toD) = true := by
  unfold sortOk
  simp only [Bool.and_eq_true, List.all_map, List.all_eq_true, Function.comp, decide_eq_true_eq, List.length_map, Bool.or_eq_true]
  refine ⟨⟨⟨fun a _ b _ => DatumOrd.alike a b, fun a _ => ⟨Nat.le_trans (Datum.depth_le a) hd, Datum.plain a⟩⟩, ?_⟩, hz⟩
  rcases hk with hk | hk
  · exact .inl fun a _ => by obtain ⟨x, xs, e⟩ := hk a; rw [e]
  · exact .inr fun a _ => hk a
end
theorem okD_toD {α : Type} [DecidableEq α] [Datum α] (a : α) (hd : Datum.depth α ≤ 64) : okD (Datum.toD a) = true := by
  unfold okD
  simp only [Bool.and_eq_true, decide_eq_true_eq]
  exact ⟨Datum.plain a, Nat.le_trans (Datum.depth_le a) hd⟩
end Bx

set_option Elab.async false
set_option linter.all false
set_option maxRecDepth 100000
set_option autoImplicit false
set_option maxHeartbeats 4000000
/-! More rows. -/
namespace Bx
open PySem PySem.Spec PySem.W
@[simp] theorem mu_popc (xs : List PyData) (y : PyData) : muD .pop (xs ++ [y]) [] = some (y, xs) := by
  unfold muD
  simp
@[simp] theorem toD_int (i : Int) : (Datum.toD i : PyData) = .int i := rfl
@[simp] theorem toD_bool (i : Bool) : (Datum.toD i : PyData) = .bool i := rfl
@[simp] theorem toD_pair {α β : Type} [DecidableEq α] [Datum α] [DecidableEq β] [Datum β] (p : α × β) : (Datum.toD p : PyData) = .tuple [Datum.toD p.1, Datum.toD p.2] := rfl
theorem toD_list {α : Type} [DecidableEq α] [Datum α] (l : List α) : (Datum.toD l : PyData) = .list (l.map Datum.toD) := rfl
theorem toD_tup {α : Type} [DecidableEq α] [Datum α] (l : List α) : (Datum.toD (Tup.mk l) : PyData) = .tuple (l.map Datum.toD) := rfl
theorem cmp_nenil {α : Type} [DecidableEq α] [Datum α] (l : List α) (h : Datum.depth α ≤ 63) : cmpD .ne (.list (l.map Datum.toD)) (.list []) = some (!decide (l = [])) := by
  have e : ∀ m : List α, PyData.list (m.map Datum.toD) = Datum.toD m := fun _ => rfl
  have o : ∀ m : List α, okD (.list (m.map Datum.toD)) = true := fun m => by
    rw [e]
    exact okD_toD m (by show Datum.depth α + 1 ≤ 64; omega)
  have e2 : PyData.eqv (.list (l.map Datum.toD)) (.list []) = decide (l = []) := Datum.eqv l []
  rw [cmp_ne, o l, show okD (.list []) = true from o [], e2]
  rfl
/-- found == due and repr(found) == repr(due), of one thing -/
theorem same_run {C : Call} {d : PyData} (h : Shw d) : cmpD .eq d d = some true ∧ btD .repr [d] = some (.fr (.str d.shown)) ∧ cmpD .eq (.str d.shown) (.str d.shown) = some true := by
  refine ⟨?_, ?_, ?_⟩
  · rw [cmp_eq, h.okD, eqv_refl d h.1]
    rfl
  · rw [bt_repr, h.repr]
    rfl
  · rw [cmp_eq, show okD (.str d.shown) = true from rfl, eqv_refl (.str d.shown) rfl]
    rfl
end Bx

set_option Elab.async false
set_option linter.all false
set_option maxRecDepth 100000
set_option autoImplicit false
set_option maxHeartbeats 0
/-! the defs of law_k13_stretches_and_heights in the small language (printed by gen.py) -/
namespace Lw
open PySem Bx
abbrev row : PySem.W.OpenLaw := PySem.Challenge.rw_boxsums_k13_stretches_and_heights
def top (i : Nat) : Stmt := row.prog.main.body.getD i (.Pass ⟨0, 0, 0, 0⟩)
def nf_halved : Nat := 0
def nf_stretches : Nat := 1
def nf_height : Nat := 2
def nf_law_pen : Nat := 3
def nf_law_take : Nat := 4
def nf_law_stretches : Nat := 5
def nf_law_same : Nat := 6
def nf_law_height : Nat := 7
def nf_law_right : Nat := 8
def nf_law : Nat := 9
def f_halved : Fn := ⟨2, 2, (.cons (.rt (.bin .fdiv (.bin .add (.bw 0) (.bw 1)) (.k (.int 2)))) <|
  .nil), []⟩
def df_halved : Dn := ⟨⟨("halved", none), "halved", "halved", L2.defArgs (top 1), L2.defBody (top 1), L2.defScope (top 1), [], []⟩, ["low", "high"], ["low", "high"], f_halved⟩
def f_stretches_c1 : Ex := (.cmp .lt (.bw 2) (.bt .len (.cons (.bw 1) .nil)))
def f_stretches_b1 : Ss := (.cons (.as (.tup (.nm 3) (.tup (.nm 4) .tupn)) (.ix (.bw 1) (.bw 2))) <|
  .cons (.iff (.cmp .lt (.bw 3) (.bw 4)) (.cons (.as (.nm 5) (.call nf_halved (.cons (.bw 3) (.cons (.bw 4) .nil)))) <|
    .cons (.ex (.mu .extend 1 (.cons (.lst (.cons (.tup (.cons (.v 3) (.cons (.v 5) .nil))) (.cons (.tup (.cons (.bin .add (.bw 5) (.k (.int 1))) (.cons (.v 4) .nil))) .nil))) .nil))) <|
    .nil) (.nil)) <|
  .cons (.as (.nm 2) (.bin .add (.bw 2) (.k (.int 1)))) <|
  .nil)
def f_stretches : Fn := ⟨1, 6, (.cons (.as (.nm 1) (.lst (.cons (.tup (.cons (.k (.int 0)) (.cons (.bin .sub (.bw 0) (.k (.int 1))) .nil))) .nil))) <|
  .cons (.as (.nm 2) (.k (.int 0))) <|
  .cons (.wh f_stretches_c1 f_stretches_b1 [3, 4, 5]) <|
  .cons (.rt (.bt .sorted (.cons (.bw 1) .nil))) <|
  .nil), [1, 2, 3, 4, 5]⟩
def df_stretches : Dn := ⟨⟨("stretches", none), "stretches", "stretches", L2.defArgs (top 2), L2.defBody (top 2), L2.defScope (top 2), [], []⟩, ["side", "found", "at", "low", "high", "middle"], ["side"], f_stretches⟩
def f_height_c1 : Ex := (.cmp .lt (.bw 2) (.bw 0))
def f_height_b1 : Ss := (.cons (.as (.nm 2) (.bin .mul (.bw 2) (.k (.int 2)))) <|
  .cons (.as (.nm 1) (.bin .add (.bw 1) (.k (.int 1)))) <|
  .nil)
def f_height : Fn := ⟨1, 3, (.cons (.as (.nm 1) (.k (.int 0))) <|
  .cons (.as (.nm 2) (.k (.int 1))) <|
  .cons (.wh f_height_c1 f_height_b1 []) <|
  .cons (.rt (.mv 1)) <|
  .nil), [1, 2]⟩
def df_height : Dn := ⟨⟨("height", none), "height", "height", L2.defArgs (top 3), L2.defBody (top 3), L2.defScope (top 3), [], []⟩, ["side", "found", "reach"], ["side"], f_height⟩
def f_law_pen : Fn := ⟨1, 1, (.cons (.rt (.lst (.cons (.v 0) (.cons (.k (.int 0)) (.cons (.k (.int 0)) .nil))))) <|
  .nil), []⟩
def df_law_pen : Dn := ⟨⟨("_law_pen", none), "_law_pen", "_law_pen", L2.defArgs (top 5), L2.defBody (top 5), L2.defScope (top 5), [], []⟩, ["_law_script"], ["_law_script"], f_law_pen⟩
def f_law_take : Fn := ⟨2, 6, (.cons (.iff (.cmp .gt (.ix (.bw 0) (.k (.int 2))) (.k (.int 0))) (.cons (.as (.nm 2) (.bin .mod (.ix (.bw 0) (.k (.int 2))) (.bw 1))) <|
    .cons (.sx 0 (.k (.int 2)) (.bin .fdiv (.ix (.bw 0) (.k (.int 2))) (.bw 1))) <|
    .cons (.rt (.mv 2)) <|
    .nil) (.nil)) <|
  .cons (.as (.nm 3) (.ix (.bw 0) (.k (.int 1)))) <|
  .cons (.sx 0 (.k (.int 1)) (.bin .add (.bw 3) (.k (.int 1)))) <|
  .cons (.as (.nm 4) (.k (.int 5))) <|
  .cons (.iff (.cmp .gt (.bt .len (.cons (.ix (.bw 0) (.k (.int 0))) .nil)) (.k (.int 0))) (.cons (.as (.nm 4) (.ix (.ix (.bw 0) (.k (.int 0))) (.bin .mod (.bw 3) (.bt .len (.cons (.ix (.bw 0) (.k (.int 0))) .nil))))) <|
    .nil) (.nil)) <|
  .cons (.iff (.an (.cmp .lt (.bw 3) (.bt .len (.cons (.ix (.bw 0) (.k (.int 0))) .nil))) (.cmp .ge (.bt .abs (.cons (.bw 4) .nil)) (.bin .pow (.k (.int 10)) (.k (.int 18))))) (.cons (.sx 0 (.k (.int 2)) (.bin .fdiv (.bt .abs (.cons (.bw 4) .nil)) (.bw 1))) <|
    .cons (.rt (.bin .mod (.bt .abs (.cons (.bw 4) .nil)) (.bw 1))) <|
    .nil) (.nil)) <|
  .cons (.as (.nm 5) (.bin .mod (.bin .mul (.bin .add (.bin .add (.bin .mod (.bw 4) (.k (.int 2147483587))) (.bin .mul (.k (.int 40709)) (.bw 3))) (.k (.int 31))) (.k (.int 69621))) (.k (.int 2147483647)))) <|
  .cons (.as (.nm 5) (.bin .mod (.bin .add (.bin .add (.bin .mul (.bw 5) (.bw 5)) (.bin .mul (.k (.int 48271)) (.bw 5))) (.bw 3)) (.k (.int 2147483629)))) <|
  .cons (.rt (.bin .mod (.bin .fdiv (.bw 5) (.k (.int 64))) (.bw 1))) <|
  .nil), [2, 3, 4, 5]⟩
def df_law_take : Dn := ⟨⟨("_law_take", none), "_law_take", "_law_take", L2.defArgs (top 6), L2.defBody (top 6), L2.defScope (top 6), [], []⟩, ["_law_pen_here", "_law_most", "_law_found", "_law_at", "_law_cell", "_law_number"], ["_law_pen_here", "_law_most"], f_law_take⟩
def f_law_stretches_c1 : Ex := (.cmp .ne (.bw 2) (.lst .nil))
def f_law_stretches_b1 : Ss := (.cons (.as (.tup (.nm 3) (.tup (.nm 4) .tupn)) (.mu .pop 2 .nil)) <|
  .cons (.ex (.mu .append 1 (.cons (.tup (.cons (.v 3) (.cons (.v 4) .nil))) .nil))) <|
  .cons (.iff (.cmp .lt (.bw 3) (.bw 4)) (.cons (.ex (.mu .append 2 (.cons (.tup (.cons (.v 3) (.cons (.bin .fdiv (.bin .add (.bw 3) (.bw 4)) (.k (.int 2))) .nil))) .nil))) <|
    .cons (.ex (.mu .append 2 (.cons (.tup (.cons (.bin .add (.bin .fdiv (.bin .add (.bw 3) (.bw 4)) (.k (.int 2))) (.k (.int 1))) (.cons (.v 4) .nil))) .nil))) <|
    .nil) (.nil)) <|
  .nil)
def f_law_stretches : Fn := ⟨1, 5, (.cons (.as (.nm 1) (.lst .nil)) <|
  .cons (.as (.nm 2) (.lst (.cons (.tup (.cons (.k (.int 0)) (.cons (.bin .sub (.bw 0) (.k (.int 1))) .nil))) .nil))) <|
  .cons (.wh f_law_stretches_c1 f_law_stretches_b1 [3, 4]) <|
  .cons (.rt (.bt .sorted (.cons (.bw 1) .nil))) <|
  .nil), [1, 2, 3, 4]⟩
def df_law_stretches : Dn := ⟨⟨("_law_stretches", none), "_law_stretches", "_law_stretches", L2.defArgs (top 7), L2.defBody (top 7), L2.defScope (top 7), [], []⟩, ["_law_side", "_law_found", "_law_waiting", "_law_low", "_law_high"], ["_law_side"], f_law_stretches⟩
def f_law_same : Fn := ⟨2, 2, (.cons (.rt (.an (.cmp .eq (.bw 0) (.bw 1)) (.cmp .eq (.bt .repr (.cons (.bw 0) .nil)) (.bt .repr (.cons (.bw 1) .nil))))) <|
  .nil), []⟩
def df_law_same : Dn := ⟨⟨("_law_same", none), "_law_same", "_law_same", L2.defArgs (top 8), L2.defBody (top 8), L2.defScope (top 8), [], []⟩, ["_law_found", "_law_due"], ["_law_found", "_law_due"], f_law_same⟩
def f_law_height_c1 : Ex := (.cmp .gt (.bw 2) (.k (.int 1)))
def f_law_height_b1 : Ss := (.cons (.as (.nm 2) (.bin .fdiv (.bin .add (.bw 2) (.k (.int 1))) (.k (.int 2)))) <|
  .cons (.as (.nm 1) (.bin .add (.bw 1) (.k (.int 1)))) <|
  .nil)
def f_law_height : Fn := ⟨1, 3, (.cons (.as (.nm 1) (.k (.int 0))) <|
  .cons (.as (.nm 2) (.mv 0)) <|
  .cons (.wh f_law_height_c1 f_law_height_b1 []) <|
  .cons (.rt (.mv 1)) <|
  .nil), [1, 2]⟩
def df_law_height : Dn := ⟨⟨("_law_height", none), "_law_height", "_law_height", L2.defArgs (top 9), L2.defBody (top 9), L2.defScope (top 9), [], []⟩, ["_law_side", "_law_found", "_law_left"], ["_law_side"], f_law_height⟩
def f_law_right_b1 : Ss := (.cons (.as (.nm 3) (.call nf_stretches (.cons (.bw 0) .nil))) <|
  .cons (.iff (.orr (.nt (.call nf_law_same (.cons (.bw 3) (.cons (.bw 1) .nil)))) (.cmp .ne (.bt .len (.cons (.bw 3) .nil)) (.bin .sub (.bin .mul (.k (.int 2)) (.bw 0)) (.k (.int 1))))) (.cons (.rt (.k (.bool false))) <|
    .nil) (.nil)) <|
  .cons (.ex (.mu .append 3 (.cons (.tup (.cons (.k (.int 0)) (.cons (.k (.int 0)) .nil))) .nil))) <|
  .nil)
def f_law_right : Fn := ⟨1, 4, (.cons (.as (.nm 1) (.call nf_law_stretches (.cons (.bw 0) .nil))) <|
  .cons (.fo (.nm 2) (.rg (.cons (.k (.int 2)) .nil)) f_law_right_b1 [2, 3]) <|
  .cons (.rt (.call nf_law_same (.cons (.call nf_height (.cons (.bw 0) .nil)) (.cons (.call nf_law_height (.cons (.bw 0) .nil)) .nil)))) <|
  .nil), [1, 2, 3]⟩
def df_law_right : Dn := ⟨⟨("_law_right", none), "_law_right", "_law_right", L2.defArgs (top 10), L2.defBody (top 10), L2.defScope (top 10), [], []⟩, ["_law_side", "_law_due", "_law_turn", "_law_found"], ["_law_side"], f_law_right⟩
def f_law_b1 : Ss := (.cons (.iff (.nt (.call nf_law_right (.cons (.bw 5) .nil))) (.cons (.rt (.k (.bool false))) <|
    .nil) (.nil)) <|
  .nil)
def f_law_b2 : Ss := (.cons (.as (.nm 3) (.bin .add (.k (.int 1)) (.call nf_law_take (.cons (.ln 1) (.cons (.ix (.lst (.cons (.k (.int 8)) (.cons (.k (.int 20)) (.cons (.k (.int 120)) .nil)))) (.call nf_law_take (.cons (.ln 1) (.cons (.k (.int 3)) .nil)))) .nil))))) <|
  .cons (.iff (.nt (.call nf_law_right (.cons (.bw 3) .nil))) (.cons (.rt (.k (.bool false))) <|
    .nil) (.nil)) <|
  .cons (.as (.nm 4) (.bin .shl (.k (.int 1)) (.call nf_law_take (.cons (.ln 1) (.cons (.k (.int 7)) .nil))))) <|
  .cons (.fo (.nm 5) (.ov (.lst (.cons (.v 4) (.cons (.bin .add (.bw 4) (.k (.int 1))) (.cons (.bt .max2 (.cons (.k (.int 1)) (.cons (.bin .sub (.bw 4) (.k (.int 1))) .nil))) .nil))))) f_law_b1 [5]) <|
  .nil)
def f_law : Fn := ⟨1, 6, (.cons (.as (.nm 1) (.call nf_law_pen (.cons (.bw 0) .nil))) <|
  .cons (.fo (.nm 2) (.rg (.cons (.k (.int 12)) .nil)) f_law_b2 [2, 3, 4, 5]) <|
  .cons (.rt (.k (.bool true))) <|
  .nil), [1, 2, 3, 4, 5]⟩
def df_law : Dn := ⟨⟨("law", none), "law", "law", L2.defArgs (top 11), L2.defBody (top 11), L2.defScope (top 11), [], []⟩, ["_law_script", "_law_pen_here", "_law_k", "_law_side", "_law_power", "_law_near"], ["_law_script"], f_law⟩
def prog : Pg where
  ds := [df_halved, df_stretches, df_height, df_law_pen, df_law_take, df_law_stretches, df_law_same, df_law_height, df_law_right, df_law]
  cons := []
  blts := ["abs", "len", "max", "range", "repr", "sorted"]
theorem bf_halved : df_halved.binds := fun _ _ _ _ _ _ us hl => match us, hl with | [_, _], _ => rfl
theorem of_halved : df_halved.ok prog.G = true := by decide +kernel
theorem bf_stretches : df_stretches.binds := fun _ _ _ _ _ _ us hl => match us, hl with | [_], _ => rfl
theorem of_stretches : df_stretches.ok prog.G = true := by decide +kernel
theorem bf_height : df_height.binds := fun _ _ _ _ _ _ us hl => match us, hl with | [_], _ => rfl
theorem of_height : df_height.ok prog.G = true := by decide +kernel
theorem bf_law_pen : df_law_pen.binds := fun _ _ _ _ _ _ us hl => match us, hl with | [_], _ => rfl
theorem of_law_pen : df_law_pen.ok prog.G = true := by decide +kernel
theorem bf_law_take : df_law_take.binds := fun _ _ _ _ _ _ us hl => match us, hl with | [_, _], _ => rfl
theorem of_law_take : df_law_take.ok prog.G = true := by decide +kernel
theorem bf_law_stretches : df_law_stretches.binds := fun _ _ _ _ _ _ us hl => match us, hl with | [_], _ => rfl
theorem of_law_stretches : df_law_stretches.ok prog.G = true := by decide +kernel
theorem bf_law_same : df_law_same.binds := fun _ _ _ _ _ _ us hl => match us, hl with | [_, _], _ => rfl
theorem of_law_same : df_law_same.ok prog.G = true := by decide +kernel
theorem bf_law_height : df_law_height.binds := fun _ _ _ _ _ _ us hl => match us, hl with | [_], _ => rfl
theorem of_law_height : df_law_height.ok prog.G = true := by decide +kernel
theorem bf_law_right : df_law_right.binds := fun _ _ _ _ _ _ us hl => match us, hl with | [_], _ => rfl
theorem of_law_right : df_law_right.ok prog.G = true := by decide +kernel
theorem bf_law : df_law.binds := fun _ _ _ _ _ _ us hl => match us, hl with | [_], _ => rfl
theorem of_law : df_law.ok prog.G = true := by decide +kernel
theorem rf_halved (n : Nat) (ws : List Sl) : callN prog.P (n + 1) nf_halved ws = runFn (callN prog.P n) f_halved ws := rfl
theorem rf_stretches (n : Nat) (ws : List Sl) : callN prog.P (n + 1) nf_stretches ws = runFn (callN prog.P n) f_stretches ws := rfl
theorem rf_height (n : Nat) (ws : List Sl) : callN prog.P (n + 1) nf_height ws = runFn (callN prog.P n) f_height ws := rfl
theorem rf_law_pen (n : Nat) (ws : List Sl) : callN prog.P (n + 1) nf_law_pen ws = runFn (callN prog.P n) f_law_pen ws := rfl
theorem rf_law_take (n : Nat) (ws : List Sl) : callN prog.P (n + 1) nf_law_take ws = runFn (callN prog.P n) f_law_take ws := rfl
theorem rf_law_stretches (n : Nat) (ws : List Sl) : callN prog.P (n + 1) nf_law_stretches ws = runFn (callN prog.P n) f_law_stretches ws := rfl
theorem rf_law_same (n : Nat) (ws : List Sl) : callN prog.P (n + 1) nf_law_same ws = runFn (callN prog.P n) f_law_same ws := rfl
theorem rf_law_height (n : Nat) (ws : List Sl) : callN prog.P (n + 1) nf_law_height ws = runFn (callN prog.P n) f_law_height ws := rfl
theorem rf_law_right (n : Nat) (ws : List Sl) : callN prog.P (n + 1) nf_law_right ws = runFn (callN prog.P n) f_law_right ws := rfl
theorem rf_law (n : Nat) (ws : List Sl) : callN prog.P (n + 1) nf_law ws = runFn (callN prog.P n) f_law ws := rfl
theorem prog_ok : prog.Ok := by
  refine ⟨fun d hd => ?_, fun d hd => ?_, by decide +kernel⟩
  · simp only [prog, List.mem_cons, List.not_mem_nil, or_false] at hd
    rcases hd with rfl | rfl | rfl | rfl | rfl | rfl | rfl | rfl | rfl | rfl
    · exact of_halved
    · exact of_stretches
    · exact of_height
    · exact of_law_pen
    · exact of_law_take
    · exact of_law_stretches
    · exact of_law_same
    · exact of_law_height
    · exact of_law_right
    · exact of_law
  · simp only [prog, List.mem_cons, List.not_mem_nil, or_false] at hd
    rcases hd with rfl | rfl | rfl | rfl | rfl | rfl | rfl | rfl | rfl | rfl
    · exact bf_halved
    · exact bf_stretches
    · exact bf_height
    · exact bf_law_pen
    · exact bf_law_take
    · exact bf_law_stretches
    · exact bf_law_same
    · exact bf_law_height
    · exact bf_law_right
    · exact bf_law
end Lw

set_option Elab.async false
set_option linter.all false
set_option maxRecDepth 100000
set_option maxHeartbeats 4000000
namespace Lw
open PySem PySem.W Bx

/-! ### the halving of a stretch -/
def tr (lo hi : Int) : List (Int × Int) := if lo < hi then (lo, hi) :: (tr lo ((lo + hi) / 2) ++ tr ((lo + hi) / 2 + 1) hi) else [(lo, hi)]
termination_by (hi - lo).toNat
decreasing_by all_goals omega
def trs (l : List (Int × Int)) : List (Int × Int) := l.flatMap fun p => tr p.1 p.2
theorem tr_lt {lo hi : Int} (h : lo < hi) : tr lo hi = (lo, hi) :: (tr lo ((lo + hi) / 2) ++ tr ((lo + hi) / 2 + 1) hi) := by rw [tr, if_pos h]
theorem tr_ge {lo hi : Int} (h : ¬ lo < hi) : tr lo hi = [(lo, hi)] := by rw [tr, if_neg h]
theorem tr_pos (lo hi : Int) : 0 < (tr lo hi).length := by
  by_cases h : lo < hi
  · rw [tr_lt h]; simp
  · rw [tr_ge h]; simp
theorem tr_len (lo hi : Int) (h : lo ≤ hi) : ((tr lo hi).length : Int) = 2 * (hi - lo) + 1 := by
  by_cases hl : lo < hi
  · have h1 := tr_len lo ((lo + hi) / 2) (by omega)
    have h2 := tr_len ((lo + hi) / 2 + 1) hi (by omega)
    rw [tr_lt hl, List.length_cons, List.length_append]
    push_cast
    omega
  · rw [tr_ge hl]
    simp
    omega
termination_by (hi - lo).toNat
decreasing_by all_goals omega
theorem tr_mem (lo hi : Int) (h : lo ≤ hi) : ∀ p ∈ tr lo hi, lo ≤ p.1 ∧ p.1 ≤ p.2 ∧ p.2 ≤ hi := by
  intro p hp
  by_cases hl : lo < hi
  · rw [tr_lt hl] at hp
    rcases List.mem_cons.mp hp with rfl | hp
    · exact ⟨Int.le_refl _, h, Int.le_refl _⟩
    · rcases List.mem_append.mp hp with hp | hp
      · have := tr_mem lo ((lo + hi) / 2) (by omega) p hp
        omega
      · have := tr_mem ((lo + hi) / 2 + 1) hi (by omega) p hp
        omega
  · rw [tr_ge hl] at hp
    have := List.mem_singleton.mp hp
    subst this
    exact ⟨Int.le_refl _, h, Int.le_refl _⟩
termination_by (hi - lo).toNat
decreasing_by all_goals omega
theorem trs_ge (l : List (Int × Int)) : l.length ≤ (trs l).length := by
  induction l with
  | nil => exact Nat.zero_le _
  | cons p l ih =>
    have := tr_pos p.1 p.2
    show l.length + 1 ≤ (tr p.1 p.2 ++ trs l).length
    rw [List.length_append]
    omega
theorem trs_cons (p : Int × Int) (l : List (Int × Int)) : trs (p :: l) = tr p.1 p.2 ++ trs l := rfl
theorem trs_nil : trs [] = [] := rfl
theorem trs_app (l m : List (Int × Int)) : trs (l ++ m) = trs l ++ trs m := by
  unfold trs
  rw [List.flatMap_append]

variable {C : Call}
def Halved (C : Call) : Prop := ∀ lo hi : Int, C nf_halved [.fr (.int lo), .fr (.int hi)] = some (.fr (.int ((lo + hi) / 2)), [.no, .no])
theorem halved_ok (n : Nat) : Halved (callN prog.P (n + 1)) := fun _ _ => rfl

def sd (l : List (Int × Int)) : PyData := .list (l.map Datum.toD)
def Stretches (C : Call) : Prop := ∀ side : Int, 1 ≤ side → side ≤ 1000 → C nf_stretches [.fr (.int side)] = some (.ow (sd (sortL (tr 0 (side - 1)))), [.no])
theorem sort_tr (l : List (Int × Int)) (hz : l.length ≤ SZ) : btD .sorted [.list (l.map Datum.toD)] = some (.ow (sd (sortL l))) := by
  rw [bt_sorted, sortOk_toD l hz (by decide) (.inl fun a => ⟨_, _, rfl⟩), if_pos rfl, sort_toD]
  rfl
def senv (side : Int) (s : List (Int × Int) × List (Int × Int)) : Bx.Env := [.fr (.int side), .ow (.list ((s.1 ++ s.2).map Datum.toD)), .fr (.int s.1.length), .no, .no, .no]
theorem stretches_loop (hh : Halved C) (side : Int) (h1 : 1 ≤ side) (h2 : side ≤ 1000) :
    ∃ l : List (Int × Int), l.Perm (tr 0 (side - 1)) ∧ whileL (evE C f_stretches_c1) (evB C f_stretches_b1) [3, 4, 5] TURNS (senv side ([], [(0, side - 1)])) = some (.nx (senv side (l, []))) := by
  have hN := tr_len 0 (side - 1) (by omega)
  have szl : (SZ : Nat) = 16777216 := rfl
  obtain ⟨r, e, l, hl, rfl⟩ := while_inv (c := evE C f_stretches_c1) (b := evB C f_stretches_b1) (kill := [3, 4, 5]) (senv side) (fun s => (s.1 ++ trs s.2).Perm (tr 0 (side - 1))) (fun r => ∃ l : List (Int × Int), l.Perm (tr 0 (side - 1)) ∧ r = senv side (l, [])) (fun s => (trs s.2).length) (fun ⟨done, wait⟩ hp => by
      have hp : (done ++ trs wait).Perm (tr 0 (side - 1)) := hp
      have hlen := hp.length_eq
      rw [List.length_append] at hlen
      have hw := trs_ge wait
      cases wait with
      | nil =>
        left
        exact ⟨senv side (done, []), by simp [senv, f_stretches_c1], done, by simpa [trs] using hp, rfl⟩
      | cons p wait =>
        right
        obtain ⟨lo, hi⟩ := p
        rw [trs_cons, List.length_append] at hlen
        have hp1 := tr_pos lo hi
        by_cases hlt : lo < hi
        · have tl := tr_lt hlt
          have hc : (tr lo hi).length = (tr lo ((lo + hi) / 2)).length + (tr ((lo + hi) / 2 + 1) hi).length + 1 := by rw [tl]; simp
          have p2 := tr_pos lo ((lo + hi) / 2)
          have p3 := tr_pos ((lo + hi) / 2 + 1) hi
          refine ⟨senv side (done, (lo, hi) :: wait), [.fr (.int side), .ow (.list ((done ++ (lo, hi) :: wait ++ [(lo, (lo + hi) / 2), ((lo + hi) / 2 + 1, hi)]).map Datum.toD)), .fr (.int (done.length + 1)), .fr (.int lo), .fr (.int hi), .fr (.int ((lo + hi) / 2))], (done ++ [(lo, hi)], wait ++ [(lo, (lo + hi) / 2), ((lo + hi) / 2 + 1, hi)]), by simp [senv, f_stretches_c1]; omega, ?_, ?_, ?_, ?_⟩
          · have z : done.length + (wait.length + 1) + 2 ≤ SZ := by have := trs_ge wait; simp at hlen; omega
            simp [senv, f_stretches_b1, atI_nat, hlt, hh lo hi, z]
          · simp [senv]
          · refine List.Perm.trans ?_ hp
            simp only [trs_cons, trs_app, tl, trs_nil, List.append_nil, List.append_assoc, List.singleton_append, List.cons_append, List.nil_append]
            refine List.Perm.append_left _ (List.Perm.cons _ ?_)
            rw [← List.append_assoc (tr lo ((lo + hi) / 2))]
            exact List.perm_append_comm
          · simp only [trs_cons, trs_app, List.length_append, trs_nil, List.append_nil] at hlen ⊢
            omega
        · have tl := tr_ge hlt
          refine ⟨senv side (done, (lo, hi) :: wait), [.fr (.int side), .ow (.list ((done ++ (lo, hi) :: wait).map Datum.toD)), .fr (.int (done.length + 1)), .fr (.int lo), .fr (.int hi), .no], (done ++ [(lo, hi)], wait), by simp [senv, f_stretches_c1]; omega, ?_, ?_, ?_, ?_⟩
          · simp [senv, f_stretches_b1, atI_nat, hlt]
          · simp [senv]
          · refine List.Perm.trans ?_ hp
            simp [trs_cons, tl]
          · simp only [trs_cons, List.length_append]
            omega) TURNS ([], [(0, side - 1)]) (by simp [trs]) (by
      show (tr 0 (side - 1) ++ []).length < TURNS
      have : TURNS = 100000 := rfl
      rw [List.append_nil]
      omega)
  exact ⟨l, hl, e⟩
theorem stretches_run (hh : Halved C) (side : Int) (h1 : 1 ≤ side) (h2 : side ≤ 1000) : runFn C f_stretches [.fr (.int side)] = some (.ow (sd (sortL (tr 0 (side - 1)))), [.no]) := by
  obtain ⟨l, hl, e⟩ := stretches_loop hh side h1 h2
  have hN := tr_len 0 (side - 1) (by omega)
  have hz : l.length ≤ SZ := by rw [hl.length_eq]; have : (SZ : Nat) = 16777216 := rfl; omega
  have e' : whileL (evE C f_stretches_c1) (evB C f_stretches_b1) [3, 4, 5] TURNS [.fr (.int side), .ow (.list [.tuple [.int 0, .int (side - 1)]]), .fr (.int 0), .no, .no, .no] = _ := e
  have z1 : (2 : Nat) ≤ SZ := by decide
  have z2 : (1 : Nat) ≤ SZ := by decide
  have sr := sort_tr l hz
  rw [sortL_congr hl] at sr
  unfold f_stretches
  simp [z1, z2, e', senv, -bt_sorted, sr]
theorem stretches_ok (n : Nat) : Stretches (callN prog.P (n + 2)) := fun side h1 h2 => by
  rw [rf_stretches]
  exact stretches_run (halved_ok n) side h1 h2

/-! ### the law's own -/
def LStretches (C : Call) : Prop := ∀ side : Int, 1 ≤ side → side ≤ 1000 → C nf_law_stretches [.fr (.int side)] = some (.ow (sd (sortL (tr 0 (side - 1)))), [.no])
def lenv (side : Int) (s : List (Int × Int) × List (Int × Int)) : Bx.Env := [.fr (.int side), .ow (.list (s.1.map Datum.toD)), .ow (.list (s.2.map Datum.toD)), .no, .no]
theorem lstretches_loop (side : Int) (h1 : 1 ≤ side) (h2 : side ≤ 1000) :
    ∃ l : List (Int × Int), l.Perm (tr 0 (side - 1)) ∧ whileL (evE C f_law_stretches_c1) (evB C f_law_stretches_b1) [3, 4] TURNS (lenv side ([], [(0, side - 1)])) = some (.nx (lenv side (l, []))) := by
  have hN := tr_len 0 (side - 1) (by omega)
  have szl : (SZ : Nat) = 16777216 := rfl
  obtain ⟨r, e, l, hl, rfl⟩ := while_inv (c := evE C f_law_stretches_c1) (b := evB C f_law_stretches_b1) (kill := [3, 4]) (lenv side) (fun s => (s.1 ++ trs s.2).Perm (tr 0 (side - 1))) (fun r => ∃ l : List (Int × Int), l.Perm (tr 0 (side - 1)) ∧ r = lenv side (l, [])) (fun s => (trs s.2).length) (fun ⟨done, wait⟩ hp => by
      have hp : (done ++ trs wait).Perm (tr 0 (side - 1)) := hp
      have hlen := hp.length_eq
      rw [List.length_append] at hlen
      have hc : evE C f_law_stretches_c1 (lenv side (done, wait)) = some (.fr (.bool (!decide (wait = []))), lenv side (done, wait)) := by
        have := cmp_nenil wait (by decide)
        simp [f_law_stretches_c1, lenv, -cmp_ne, this]
      rcases List.eq_nil_or_concat wait with rfl | ⟨w, p, rfl⟩
      · left
        exact ⟨_, hc, done, by simpa [trs] using hp, rfl⟩
      · right
        obtain ⟨lo, hi⟩ := p
        rw [List.concat_eq_append] at *
        rw [trs_app, trs_cons, trs_nil, List.append_nil, List.length_append] at hlen
        rw [trs_app, trs_cons, trs_nil, List.append_nil] at hp
        have hp1 := tr_pos lo hi
        have hw := trs_ge w
        have hc : evE C f_law_stretches_c1 (lenv side (done, w ++ [(lo, hi)])) = some (.fr (.bool true), lenv side (done, w ++ [(lo, hi)])) := by simpa using hc
        have z : done.length < SZ := by simp at hlen; omega
        have z2 : w.length < SZ := by simp at hlen; omega
        have z3 : w.length + 1 < SZ := by simp at hlen; omega
        by_cases hlt : lo < hi
        · have tl := tr_lt hlt
          refine ⟨_, [.fr (.int side), .ow (.list ((done ++ [(lo, hi)]).map Datum.toD)), .ow (.list ((w ++ [(lo, (lo + hi) / 2), ((lo + hi) / 2 + 1, hi)]).map Datum.toD)), .fr (.int lo), .fr (.int hi)], (done ++ [(lo, hi)], w ++ [(lo, (lo + hi) / 2), ((lo + hi) / 2 + 1, hi)]), hc, ?_, ?_, ?_, ?_⟩
          · simp [lenv, f_law_stretches_b1, hlt, z, z2, z3]
          · simp [lenv]
          · refine List.Perm.trans ?_ hp
            simp only [trs_cons, trs_app, tl, trs_nil, List.append_nil, List.append_assoc, List.singleton_append, List.cons_append, List.nil_append]
            exact List.Perm.append_left _ (List.perm_middle.symm)
          · have hc : (tr lo hi).length = (tr lo ((lo + hi) / 2)).length + (tr ((lo + hi) / 2 + 1) hi).length + 1 := by rw [tl]; simp
            simp only [trs_cons, trs_app, List.length_append, trs_nil, List.append_nil] at hlen ⊢
            omega
        · have tl := tr_ge hlt
          refine ⟨_, [.fr (.int side), .ow (.list ((done ++ [(lo, hi)]).map Datum.toD)), .ow (.list (w.map Datum.toD)), .fr (.int lo), .fr (.int hi)], (done ++ [(lo, hi)], w), hc, ?_, ?_, ?_, ?_⟩
          · simp [lenv, f_law_stretches_b1, hlt, z]
          · simp [lenv]
          · refine List.Perm.trans ?_ hp
            simp only [tl, List.append_assoc, List.singleton_append]
            exact List.Perm.append_left _ (List.perm_append_comm (l₁ := [(lo, hi)]))
          · simp only [trs_app, trs_cons, trs_nil, List.length_append, List.append_nil]
            omega) TURNS ([], [(0, side - 1)]) (by simp [trs]) (by
      show (tr 0 (side - 1) ++ []).length < TURNS
      have : TURNS = 100000 := rfl
      rw [List.append_nil]
      omega)
  exact ⟨l, hl, e⟩
theorem lstretches_ok (n : Nat) : LStretches (callN prog.P (n + 1)) := fun side h1 h2 => by
  rw [rf_law_stretches]
  obtain ⟨l, hl, e⟩ := lstretches_loop (C := callN prog.P n) side h1 h2
  have hN := tr_len 0 (side - 1) (by omega)
  have hz : l.length ≤ SZ := by rw [hl.length_eq]; have : (SZ : Nat) = 16777216 := rfl; omega
  have e' : whileL (evE (callN prog.P n) f_law_stretches_c1) (evB (callN prog.P n) f_law_stretches_b1) [3, 4] TURNS [.fr (.int side), .ow (.list []), .ow (.list [.tuple [.int 0, .int (side - 1)]]), .no, .no] = _ := e
  have sr := sort_tr l hz
  rw [sortL_congr hl] at sr
  unfold f_law_stretches
  simp [e', lenv, -bt_sorted, sr]
def Same (C : Call) : Prop := ∀ d : PyData, Shw d → C nf_law_same [.fr d, .fr d] = some (.fr (.bool true), [.no, .no])
theorem same_ok (n : Nat) : Same (callN prog.P (n + 1)) := fun d h => by
  rw [rf_law_same]
  obtain ⟨h1, h2, h3⟩ := same_run (C := callN prog.P n) h
  unfold f_law_same
  simp [-cmp_eq, -bt_repr, h1, h2, h3]
/-! ### heights -/
def cl (n : Nat) : Nat := if n ≤ 1 then 0 else cl ((n + 1) / 2) + 1
termination_by n
decreasing_by omega
theorem cl_le (n : Nat) : n ≤ 2 ^ cl n := by
  rw [cl]
  split
  · omega
  · have := cl_le ((n + 1) / 2)
    rw [Nat.pow_succ]
    omega
termination_by n
decreasing_by omega
theorem cl_gt (n : Nat) (h : 1 < n) : 2 ^ cl n < 2 * n := by
  rw [cl, if_neg (by omega), Nat.pow_succ]
  by_cases h2 : 1 < (n + 1) / 2
  · have := cl_gt ((n + 1) / 2) h2
    have e : 2 ^ cl ((n + 1) / 2) % 2 = 0 := by
      rw [cl, if_neg (by omega), Nat.pow_succ]
      omega
    omega
  · have : (n + 1) / 2 = 1 := by omega
    rw [this, cl]
    simp
    omega
termination_by n
decreasing_by omega
def Height (C : Call) : Prop := ∀ side : Nat, 1 ≤ side → side ≤ 1000 → C nf_height [.fr (.int side)] = some (.fr (.int (cl side : Nat)), [.no])
def LHeight (C : Call) : Prop := ∀ side : Nat, 1 ≤ side → side ≤ 1000 → C nf_law_height [.fr (.int side)] = some (.fr (.int (cl side : Nat)), [.no])
def pw (k : Nat) : Int := ((2 ^ k : Nat) : Int)
theorem pw_succ (k : Nat) : pw (k + 1) = pw k * 2 := by
  unfold pw
  rw [Nat.pow_succ]
  push_cast
  rfl
theorem pw_lt (k n : Nat) : pw k < (n : Int) ↔ 2 ^ k < n := by
  unfold pw
  exact Int.ofNat_lt
theorem cl_small {side : Nat} (h2 : side ≤ 1000) : cl side ≤ 10 := by
  refine Nat.le_of_not_lt fun z => ?_
  rcases Nat.lt_or_ge 1 side with y | y
  · have h4 := cl_gt side y
    have m : 2 ^ 11 ≤ 2 ^ cl side := Nat.pow_le_pow_right (by decide) (by omega)
    have : (2 : Nat) ^ 11 = 2048 := by decide
    omega
  · rw [cl, if_pos y] at z
    omega
def henv (side k : Nat) : Bx.Env := [.fr (.int side), .fr (.int k), .fr (.int (pw k))]
theorem pw0 : pw 0 = 1 := by decide
theorem height_loop (side : Nat) (h1 : 1 ≤ side) (h2 : side ≤ 1000) : whileL (evE C f_height_c1) (evB C f_height_b1) [] TURNS (henv side 0) = some (.nx (henv side (cl side))) := by
  obtain ⟨r, e, rfl⟩ := while_inv (c := evE C f_height_c1) (b := evB C f_height_b1) (kill := []) (henv side) (fun k => k ≤ cl side) (fun r => r = henv side (cl side)) (fun k => cl side - k) (fun k hk => by
      by_cases hlt : 2 ^ k < side
      · right
        have hk2 : k < cl side := by
          refine Nat.lt_of_le_of_ne hk fun e => ?_
          have := cl_le side
          rw [← e] at this
          omega
        have hp := (pw_lt k side).mpr hlt
        refine ⟨henv side k, [.fr (.int side), .fr (.int ((k : Int) + 1)), .fr (.int (pw k * 2))], k + 1, by simp [henv, f_height_c1, hp], ?_, ?_, hk2, by omega⟩
        · simp [henv, f_height_b1]
        · simp [henv, pw_succ]
      · left
        have e : k = cl side := by
          refine Nat.le_antisymm hk (Nat.le_of_not_lt fun hk2 => ?_)
          rcases Nat.lt_or_ge 1 side with z | z
          · have := cl_gt side z
            have m : 2 ^ (k + 1) ≤ 2 ^ cl side := Nat.pow_le_pow_right (by decide) hk2
            rw [Nat.pow_succ] at m
            omega
          · rw [cl, if_pos z] at hk2
            omega
        subst e
        have hp : ¬ pw (cl side) < (side : Int) := fun z => hlt ((pw_lt _ side).mp z)
        exact ⟨henv side (cl side), by simp [henv, f_height_c1, hp], rfl⟩) TURNS 0 (Nat.zero_le _) (by
      have z := cl_small h2
      show cl side - 0 < TURNS
      rw [Nat.sub_zero]
      exact Nat.lt_of_le_of_lt z (by decide))
  exact e
theorem height_ok (n : Nat) : Height (callN prog.P (n + 1)) := fun side h1 h2 => by
  rw [rf_height]
  have e := height_loop (C := callN prog.P n) side h1 h2
  have e0 : henv side 0 = [.fr (.int side), .fr (.int 0), .fr (.int 1)] := by
    simp [henv, pw0]
  rw [e0] at e
  unfold f_height
  simp [e]
  simp [henv]
theorem lheight_ok (n : Nat) : LHeight (callN prog.P (n + 1)) := fun side h1 h2 => by
  rw [rf_law_height]
  let env : Nat × Nat → Bx.Env := fun s => [.fr (.int side), .fr (.int s.1), .fr (.int s.2)]
  obtain ⟨r, e, rfl⟩ := while_inv (c := evE (callN prog.P n) f_law_height_c1) (b := evB (callN prog.P n) f_law_height_b1) (kill := []) env (fun s => s.1 + cl s.2 = cl side ∧ 1 ≤ s.2) (fun r => r = env (cl side, 1)) (fun s => s.2) (fun ⟨k, l⟩ ⟨hk, hl⟩ => by
      have hk : k + cl l = cl side := hk
      have hl : 1 ≤ l := hl
      by_cases hlt : 1 < l
      · right
        have hl2 : (1 : Int) < (l : Int) := by omega
        refine ⟨env (k, l), [.fr (.int side), .fr (.int ((k : Int) + 1)), .fr (.int (((l : Int) + 1) / 2))], (k + 1, (l + 1) / 2), by simp [env, f_law_height_c1, hl2], ?_, ?_, ⟨?_, ?_⟩, ?_⟩
        · simp [env, f_law_height_b1]
        · simp [env]
        · show k + 1 + cl ((l + 1) / 2) = cl side
          rw [cl, if_neg (by omega)] at hk
          omega
        · show 1 ≤ (l + 1) / 2
          omega
        · show (l + 1) / 2 < l
          omega
      · left
        have : l = 1 := by omega
        subst this
        have : cl 1 = 0 := by rw [cl]; simp
        exact ⟨env (k, 1), by simp [env, f_law_height_c1], by rw [show k = cl side by omega]⟩) TURNS (0, side) ⟨by simp, h1⟩ (by
      have : TURNS = 100000 := rfl
      show side < TURNS
      omega)
  have e0 : env (0, side) = [.fr (.int side), .fr (.int 0), .fr (.int side)] := by simp [env]
  rw [e0] at e
  unfold f_law_height
  simp [e]
  simp [env]
end Lw

set_option Elab.async false
set_option linter.all false
set_option maxRecDepth 100000
set_option maxHeartbeats 4000000
namespace Lw
open PySem PySem.W Bx
variable {C : Call}
theorem take_run (s : List Int) (at_ left most : Int) (h0 : 0 ≤ at_) (hl : 0 ≤ left) (hm : 0 < most) (hm2 : most < 1073741824) :
   ∃ v a' l', 0 ≤ v ∧ v < most ∧ 0 ≤ a' ∧ 0 ≤ l' ∧ runFn C f_law_take [.ow (.list [.list (s.map .int), .int at_, .int left]), .fr (.int most)] = some (.fr (.int v), [.ow (.list [.list (s.map .int), .int a', .int l']), .no]) := by
  unfold f_law_take
  have nz : most ≠ 0 := by omega
  have m0 : ∀ x : Int, 0 ≤ x % most ∧ x % most < most := fun x => ⟨Int.emod_nonneg _ nz, Int.emod_lt_of_pos _ hm⟩
  have mb : ∀ x : Int, smallI (x % 2147483647) = true := fun x => small_in (by have := Int.emod_nonneg x (b := 2147483647) (by decide); omega) (by have := Int.emod_lt_of_pos x (b := 2147483647) (by decide); omega)
  have n1 : ¬ at_ < 0 := by omega
  by_cases hp : 0 < left
  · refine ⟨left % most, at_, left / most, (m0 _).1, (m0 _).2, h0, Int.ediv_nonneg hl (by omega), ?_⟩
    simp [hp, hm, hm2]
  · have fin : (∃ n : Int, runFn C f_law_take [.ow (.list [.list (s.map .int), .int at_, .int left]), .fr (.int most)] = some (.fr (.int (n % most)), [.ow (.list [.list (s.map .int), .int (at_ + 1), .int left]), .no])) → ∃ v a' l', 0 ≤ v ∧ v < most ∧ 0 ≤ a' ∧ 0 ≤ l' ∧ runFn C f_law_take [.ow (.list [.list (s.map .int), .int at_, .int left]), .fr (.int most)] = some (.fr (.int v), [.ow (.list [.list (s.map .int), .int a', .int l']), .no]) :=
      fun ⟨n, e⟩ => ⟨_, _, _, (m0 n).1, (m0 n).2, by omega, hl, e⟩
    unfold f_law_take at fin
    by_cases hs : s = []
    · subst hs
      apply fin
      simp [hp, hm, n1, mb]
      try exact ⟨_, rfl⟩
    · have hsl : 0 < (s.length : Int) := by have := List.length_pos_iff.mpr hs; omega
      have hsl' : 0 < s.length := by omega
      obtain ⟨c, hc, hcm⟩ := atI_in (xs := s) (i := at_ % s.length) (Int.emod_nonneg _ (by omega)) (Int.emod_lt_of_pos _ hsl)
      by_cases hb : at_ < s.length
      · by_cases hw : (1000000000000000000 : Int) ≤ c.natAbs
        · refine ⟨(c.natAbs : Int) % most, at_ + 1, (c.natAbs : Int) / most, (m0 _).1, (m0 _).2, by omega, Int.ediv_nonneg (by omega) (by omega), ?_⟩
          simp [hp, hm, hm2, mb, hsl, hsl', hb, hw, atI_map, hc]
        · apply fin
          simp [hp, hm, hm2, mb, hsl, hsl', hb, hw, atI_map, hc]
          try exact ⟨_, rfl⟩
      · apply fin
        simp [hp, hm, hm2, mb, hsl, hsl', hb, atI_map, hc]
        try exact ⟨_, rfl⟩
/-! ### the pen -/
def penD (s : List Int) (a l : Int) : PyData := .list [.list (s.map .int), .int a, .int l]
def Take (C : Call) : Prop := ∀ (s : List Int) (a l most : Int), 0 ≤ a → 0 ≤ l → 0 < most → most < 1073741824 → ∃ v a' l', 0 ≤ v ∧ v < most ∧ 0 ≤ a' ∧ 0 ≤ l' ∧ C nf_law_take [.ow (penD s a l), .fr (.int most)] = some (.fr (.int v), [.ow (penD s a' l'), .no])
theorem take_ok (n : Nat) : Take (callN prog.P (n + 1)) := fun s a l most h0 hl hm hm2 => by
  rw [rf_law_take]
  exact take_run s a l most h0 hl hm hm2
def Pen (C : Call) : Prop := ∀ s : List Int, C nf_law_pen [.fr (.list (s.map .int))] = some (.ow (penD s 0 0), [.no])
theorem pen_ok (n : Nat) : Pen (callN prog.P (n + 1)) := fun s => by
  rw [rf_law_pen]
  unfold f_law_pen
  simp [penD]
/-! ### the law -/
theorem shw_sd (l : List (Int × Int)) (hl : l.length ≤ 3000) (h : ∀ p ∈ l, 0 ≤ p.1 ∧ p.1 ≤ 1000 ∧ 0 ≤ p.2 ∧ p.2 ≤ 1000) : Shw (sd l) := by
  have c1 : ∀ p ∈ l, cost (Datum.toD p) ≤ 31 := fun p hp => by
    have ⟨h1, h2, h3, h4⟩ := h p hp
    have a1 : cost (.int p.1) ≤ 10 + 2 := cost_int (by have : (2:Nat)^10 = 1024 := by decide
                                                       omega)
    have a2 : cost (.int p.2) ≤ 10 + 2 := cost_int (by have : (2:Nat)^10 = 1024 := by decide
                                                       omega)
    show cost (.int p.1) + 2 + (cost (.int p.2) + 2 + 0) + 3 ≤ 31
    omega
  have c2 := costAll_map (Datum.toD (α := Int × Int)) 31 l c1
  refine ⟨Datum.plain l, ?_, ?_, Nat.le_trans (Datum.depth_le l) (by decide)⟩
  · show PyData.showableAll (l.map Datum.toD) = true
    refine showableAll_map _ l fun p hp => ?_
    have ⟨h1, h2, h3, h4⟩ := h p hp
    have sh : ∀ i : Int, 0 ≤ i → i ≤ 1000 → PyData.showable (.int i) = true := fun i h0 h1 => by
      show decide (i.natAbs.log2 < 1920) = true
      refine decide_eq_true ?_
      by_cases hz : i.natAbs = 0
      · rw [hz]; decide
      · have : i.natAbs.log2 < 10 := (Nat.log2_lt hz).mpr (by have : (2:Nat)^10 = 1024 := by decide
                                                              omega)
        omega
    show (PyData.showable (.int p.1) && (PyData.showable (.int p.2) && true)) = true
    rw [sh _ h1 h2, sh _ h3 h4]
    rfl
  · show costAll (l.map Datum.toD) + 3 ≤ SZ
    have : (SZ : Nat) = 16777216 := rfl
    have : l.length * (31 + 2) ≤ 3000 * 33 := Nat.mul_le_mul_right _ hl
    omega
theorem shw_tr (side : Int) (h1 : 1 ≤ side) (h2 : side ≤ 1000) : Shw (sd (sortL (tr 0 (side - 1)))) ∧ ((sortL (tr 0 (side - 1))).length : Int) = 2 * side - 1 := by
  have hN := tr_len 0 (side - 1) (by omega)
  have hp := sortL_perm (tr 0 (side - 1))
  refine ⟨shw_sd _ (by rw [hp.length_eq]; omega) fun p hm => ?_, by rw [hp.length_eq]; omega⟩
  have := tr_mem 0 (side - 1) (by omega) p (hp.subset hm)
  omega
def Right (C : Call) : Prop := ∀ side : Int, 1 ≤ side → side ≤ 1000 → C nf_law_right [.fr (.int side)] = some (.fr (.bool true), [.no])
theorem right_run (hs : Stretches C) (hl : LStretches C) (hm : Same C) (hh : Height C) (hlh : LHeight C) (side : Int) (h1 : 1 ≤ side) (h2 : side ≤ 1000) : runFn C f_law_right [.fr (.int side)] = some (.fr (.bool true), [.no]) := by
  obtain ⟨sw, sl⟩ := shw_tr side h1 h2
  have z : (sortL (tr 0 (side - 1))).length < SZ := by have : (SZ : Nat) = 16777216 := rfl; omega
  have fl : flatAll ((sortL (tr 0 (side - 1))).map Datum.toD) = true := fl_map _ (fun _ => rfl) _
  let env : Bx.Env := [.fr (.int side), .ow (sd (sortL (tr 0 (side - 1)))), .no, .no]
  have turn : ∀ x : Int, foF C (.nm 2) f_law_right_b1 (.int x) env = some (.nx [.fr (.int side), .ow (sd (sortL (tr 0 (side - 1)))), .fr (.int x), .ow (.list ((sortL (tr 0 (side - 1))).map Datum.toD ++ [.tuple [.int 0, .int 0]]))]) := fun x => by
    have s1 := hs side h1 h2
    have s2 := hm _ sw
    simp [env, f_law_right_b1, s1]
    unfold sd at s2 ⊢
    have e : PyData.eqv (.int (2 * side - 1)) (.int (2 * side - 1)) = true := eqv_refl _ rfl
    simp [s2, sl, okD, PyData.plain, PyData.depth, e, z]
  obtain ⟨n, rfl⟩ : ∃ n : Nat, side = (n : Int) := ⟨side.toNat, by omega⟩
  have e1 := hh n (by omega) (by omega)
  have e2 := hlh n (by omega) (by omega)
  have cs : Shw (.int ((cl n : Nat) : Int)) := by
    have c1 : cost (.int ((cl n : Nat) : Int)) ≤ 4 + 2 := cost_int (by have := cl_small (side := n) (by omega); simp; omega)
    have : (SZ : Nat) = 16777216 := rfl
    refine ⟨rfl, ?_, by omega, Nat.zero_le _⟩
    show decide (((cl n : Nat) : Int).natAbs.log2 < 1920) = true
    refine decide_eq_true ?_
    by_cases hz : ((cl n : Nat) : Int).natAbs = 0
    · rw [hz]; decide
    · have : ((cl n : Nat) : Int).natAbs.log2 < 4 := (Nat.log2_lt hz).mpr (by have := cl_small (side := n) (by omega); simp; omega)
      omega
  have e3 := hm _ cs
  have l1 := hl n h1 h2
  have er := for_same (f := foF C (.nm 2) f_law_right_b1) (kill := [2, 3]) (fun i : Nat => PyData.int (i : Int)) env (List.range 2) fun a _ => ⟨_, turn a, by simp [env]⟩
  simp only [env] at er
  unfold f_law_right
  simp [l1, er, e1, e2, e3]
theorem right_ok (n : Nat) : Right (callN prog.P (n + 3)) := fun side h1 h2 => by
  rw [rf_law_right]
  exact right_run (stretches_ok n) (lstretches_ok (n + 1)) (same_ok (n + 1)) (height_ok (n + 1)) (lheight_ok (n + 1)) side h1 h2
theorem law_run (hp : Pen C) (ht : Take C) (hr : Right C) (s : List Int) : ∃ fs, runFn C f_law [.fr (.list (s.map .int))] = some (.fr (.bool true), fs) := by
  let I : Bx.Env → Prop := fun r => ∃ a l : Int, 0 ≤ a ∧ 0 ≤ l ∧ r = [.fr (.list (s.map .int)), .ow (penD s a l), .no, .no, .no, .no]
  have turn : ∀ (x : Nat) (r : Bx.Env), I r → ∃ r2, foF C (.nm 2) f_law_b2 (.int (x : Int)) r = some (.nx r2) ∧ I (killS r2 [2, 3, 4, 5]) := by
    rintro x r ⟨a, l, h0, hl, rfl⟩
    obtain ⟨v1, a1, l1, p1, q1, ha1, hl1, e1⟩ := ht s a l 3 h0 hl (by decide) (by decide)
    have m : ∃ c : Int, L2.atI [PyData.int 8, .int 20, .int 120] v1 = some (.int c) ∧ 1 ≤ c ∧ c ≤ 120 := by
      rcases (by omega : v1 = 0 ∨ v1 = 1 ∨ v1 = 2) with rfl | rfl | rfl
      · exact ⟨8, rfl, by decide, by decide⟩
      · exact ⟨20, rfl, by decide, by decide⟩
      · exact ⟨120, rfl, by decide, by decide⟩
    obtain ⟨c, ec, hc1, hc2⟩ := m
    obtain ⟨v2, a2, l2, p2, q2, ha2, hl2, e2⟩ := ht s a1 l1 c ha1 hl1 (by omega) (by omega)
    obtain ⟨v3, a3, l3, p3, q3, ha3, hl3, e3⟩ := ht s a2 l2 7 ha2 hl2 (by decide) (by decide)
    have r1 := hr (1 + v2) (by omega) (by omega)
    have pw : ∃ p : Int, (1 : Int) * 2 ^ v3.toNat = p ∧ 1 ≤ p ∧ p ≤ 64 := by
      rcases (by omega : v3 = 0 ∨ v3 = 1 ∨ v3 = 2 ∨ v3 = 3 ∨ v3 = 4 ∨ v3 = 5 ∨ v3 = 6) with rfl | rfl | rfl | rfl | rfl | rfl | rfl <;> exact ⟨_, rfl, by decide, by decide⟩
    obtain ⟨p, ep, hp1, hp2⟩ := pw
    rw [Int.one_mul] at ep
    have near : ∀ y : Int, 1 ≤ y → y ≤ 1000 → foF C (.nm 5) f_law_b1 (.int y) [.fr (.list (s.map .int)), .ow (penD s a3 l3), .fr (.int x), .fr (.int (1 + v2)), .fr (.int p), .no] = some (.nx [.fr (.list (s.map .int)), .ow (penD s a3 l3), .fr (.int x), .fr (.int (1 + v2)), .fr (.int p), .fr (.int y)]) := fun y h1 h2 => by
      have := hr y h1 h2
      simp [f_law_b1, this]
    have el := for_same (f := foF C (.nm 5) f_law_b1) (kill := [5]) PyData.int [.fr (.list (s.map .int)), .ow (penD s a3 l3), .fr (.int x), .fr (.int (1 + v2)), .fr (.int p), .no] [p, p + 1, max 1 (p - 1)] fun y hy => ⟨_, near y (by simp at hy; omega) (by simp at hy; omega), by simp⟩
    simp only [List.map_cons, List.map_nil] at el
    refine ⟨[.fr (.list (s.map .int)), .ow (penD s a3 l3), .fr (.int x), .fr (.int (1 + v2)), .fr (.int p), .no], ?_, a3, l3, ha3, hl3, by simp⟩
    unfold penD at *
    have v30 : v3 ≤ 1000000 := by omega
    simp [f_law_b2, e1, ec, e2, r1, e3, p3, v30, ep, el]
  obtain ⟨r', er, a, l, h0, hl, rfl⟩ := for_each (f := foF C (.nm 2) f_law_b2) (kill := [2, 3, 4, 5]) (fun i : Nat => PyData.int (i : Int)) I (List.range 12) _ ⟨0, 0, by decide, by decide, rfl⟩ fun x _ r hi => turn x r hi
  refine ⟨[.no], ?_⟩
  have pe := hp s
  unfold penD at *
  unfold f_law
  simp [pe, er]
theorem main_ok (ns : List Int) (hl : ns.length ≤ 63) (hb : ∀ z ∈ ns, Builtin.Int.intBits z ≤ 1048576) : ∃ fs, callN prog.P 20 9 [.fr (.list (ns.map .int))] = some (.fr (.bool true), fs) :=
  law_run (pen_ok 18) (take_ok 18) (right_ok 16) ns
end Lw

set_option Elab.async false
set_option linter.all false
set_option maxRecDepth 100000
set_option maxHeartbeats 0
namespace Lw
open PySem PySem.Spec PyProof.Rows L2 Bx
abbrev Rr : PySem.W.OpenRow := PySem.W.OpenLaw.row row
abbrev hk : PySem.W.Hook := He.hookD 4 prog.fa prog.fns
def ob (s : PySem.W.SharedT) : He.AlD := He.obsDG 4 prog.fa prog.fns (HandSHeadRun.getT s)
theorem ob_eq (s : PySem.W.SharedT) : ob s = hk.obs s.abs := He.obsDG_eq (HandSHeadRun.getT_eq s)
def loose : List Str := ["halved", "stretches", "height", "_law_pen", "_law_take", "_law_stretches", "_law_same", "_law_height", "_law_right"]
theorem run (w : World) : HandSHeadRun.RunEq Rr (PySem.W.view Rr.prog [11]) hk ob 2000 loose w := by
  intro os
  kernel_rfl
end Lw
open PySem PySem.W PySem.Calls PyProof.Rows
theorem PySem.Challenge.cw_boxsums_k13_stretches_and_heights_holds : PySem.Challenge.rw_boxsums_k13_stretches_and_heights.Holds := by
  w_on; o_law
  refine HandSHeadRun.head_any (r := OpenLaw.row Lw.row) (q := view (OpenLaw.row Lw.row).prog [11]) (H := Lw.hk) (ob := Lw.ob) (M := 2000) (loose := Lw.loose) (d := HandSHeadRun.topDef (OpenLaw.row Lw.row).prog 11) (kwd := []) Lw.ob_eq
    (by kernel_rfl) (fun s => by kernel_rfl) Lw.run (by kernel_rfl) (by kernel_rfl) (by kernel_rfl) (by rfl) (by first | assumption | decide +kernel) (by decide +kernel) ⟨rfl, rfl, rfl, rfl, rfl, by decide +kernel⟩ ?hw ?hc
  case hw => w_witness2
  case hc => exact Bx.law_walk (l := Lw.row) (x := "_law_script") (i := 9) (k := 20) (n := 63) Lw.prog_ok rfl (by kernel_rfl) rfl rfl (by decide) (by kernel_rfl) ⟨rfl, by decide, by decide⟩ Lw.main_ok

import PyProof.Rows.All
import Wide.All
import OpenK.AllK
import Wide.FinOn
import HandS.ForMost
import KE.SortData
import PyProof.ReprReads
import HandS.ForExc
import HandS.Defaults
import HandS.Lambda
import HandS.IsInst
import HandS.ExcInit
import HandS.ExcSuper
import KE.KExcSuper
import KE.KSuper
import HandS.ExcField
import HandS.ExcIs
import HandS.HeadHook1
import HandS.HeadHook4
import HandS.Head0
import HandS.Head1
import HandS.Head2
import HandS.HeadEnd
import HandS.HeadHook2
import HandS.HeadHook3
import HandS.HeadWalk
import HandS.HotCalls
import KE.KDflt
import HandS.TupAny
import HandS.TupMul
import HandS.TupLe
import HandS.Deep
import HandS.CallLocal
import HandS.More
import HandS.Steps
import HandS.SetKeys
import HandS.SortOrd
import KE.GoesNew
import KE.GoesMore
import HandS.ExcValue
import KE.KDictZip
import HandS.SetFor
import HandS.Strs
import HandS.Conv
import KE.KExcIs
import PyProof.ReprRoads
import HandS.Comp
import HandS.Small
import HandS.Codes
import HandS.EndTab
import PyProof.ReprLen
import PyProof.StrLawsChain
import PyProof.StrLawsTight
import PyProof.Rows.StrSplitCount
import PyProof.Rows.StrSplitAre
import PySem.Challenge.RW_citedworks_k07_whole_lines_and_pages
set_option Elab.async false
set_option linter.all false
/-! Dm: a small language of expressions and statements over pure data, and what it computes. -/
namespace DI
open PySem

/-- pure data; fnv: a function that is handed on -/
inductive D where
  | non | bl (b : Bool) | int (i : Int) | str (x : Str)
  | tup (ds : List D) | lst (ds : List D) | dic (kvs : List (D × D))
  | obj (c : Nat) (ds : List D) | fnv (n : Nat) (caps : List D) | row
  deriving Inhabited

/-- the law's own store of drawn numbers -/
structure Row where
  ns : List Int
  i : Int
  n : Int
  c : Int
abbrev Rho := Row
/-- an error: its class, its fields -/
structure Exc where
  c : Nat
  ds : List D
inductive Rs (α : Type) where
  | stuck | ok (a : α) (r : Rho) | exc (x : Exc) (r : Rho)
def Rs.bind {α β : Type} : Rs α → (α → Rho → Rs β) → Rs β
  | .stuck, _ => .stuck
  | .ok a r, f => f a r
  | .exc x r, _ => .exc x r
@[simp] theorem Rs.bind_ok {α β : Type} (a : α) (r : Rho) (f : α → Rho → Rs β) : (Rs.ok a r).bind f = f a r := rfl
@[simp] theorem Rs.bind_exc {α β : Type} (x : Exc) (r : Rho) (f : α → Rho → Rs β) : (Rs.exc x r).bind f = .exc x r := rfl
@[simp] theorem Rs.bind_stuck {α β : Type} (f : α → Rho → Rs β) : (Rs.stuck).bind f = .stuck := rfl
def Rs.lift {α : Type} : Option α → Rho → Rs α
  | some a, r => .ok a r
  | none, _ => .stuck
@[simp] theorem Rs.lift_some {α : Type} (a : α) (r : Rho) : Rs.lift (some a) r = .ok a r := rfl
@[simp] theorem Rs.lift_none {α : Type} (r : Rho) : Rs.lift (none : Option α) r = .stuck := rfl
/-- no error may leave -/
def Rs.calm {α : Type} : Rs α → Rs α
  | .exc _ _ => .stuck
  | x => x
@[simp] theorem Rs.calm_ok {α : Type} (a : α) (r : Rho) : (Rs.ok a r).calm = .ok a r := rfl
abbrev Fn := List D → Rho → Rs D

/-! ### pure operations -/
mutual
/-- data of depth below n without objects and functions -/
def pureD : Nat → D → Bool
  | _, .non => true | _, .bl _ => true | _, .int _ => true | _, .str _ => true
  | n + 1, .tup ds => pureL n ds
  | n + 1, .lst ds => pureL n ds
  | _, _ => false
def pureL : Nat → List D → Bool
  | _, [] => true
  | n, d :: r => pureD n d && pureL n r
end
mutual
def toPy : D → PyData
  | .non => .none | .bl b => .bool b | .int i => .int i | .str x => .str x
  | .tup ds => .tuple (toPys ds)
  | .lst ds => .list (toPys ds)
  | _ => .none
def toPys : List D → List PyData
  | [] => []
  | d :: r => toPy d :: toPys r
end
def eqD (a b : D) : Bool := PyData.eqv (toPy a) (toPy b)

inductive Op where | add | sub | mul | mod | fdiv | pow
  deriving DecidableEq
def opD : Op → D → D → Option D
  | .add, .int i, .int j => some (.int (i + j))
  | .add, .str x, .str y => if x.length + y.length ≤ sizeLine then some (.str (x ++ y)) else none
  | .add, .tup x, .tup y => if x.length + y.length ≤ sizeLine then some (.tup (x ++ y)) else none
  | .add, .lst x, .lst y => if x.length + y.length ≤ sizeLine then some (.lst (x ++ y)) else none
  | .sub, .int i, .int j => some (.int (i - j))
  | .mul, .int i, .int j => if (-(2 ^ 64) < i ∧ i < 2 ^ 64) ∨ (-(2 ^ 64) < j ∧ j < 2 ^ 64) then some (.int (i * j)) else none
  | .mul, .tup x, .int k => if -1000 ≤ k ∧ k ≤ 1000 ∧ x.length ≤ 1000 then some (.tup (List.replicate k.toNat x).flatten) else none
  | .mul, .lst x, .int k => if -(2 ^ 63) ≤ k ∧ k < 2 ^ 63 ∧ x.length * k.toNat ≤ sizeLine then some (.lst (List.replicate k.toNat x).flatten) else none
  | .mod, .int i, .int j => if 0 < j then some (.int (i % j)) else none
  | .fdiv, .int i, .int j => if 0 < j ∧ j < 1073741824 then some (.int (i / j)) else none
  | .pow, .int i, .int j => if 0 ≤ j ∧ j ≤ 1000000 ∧ i.natAbs < 2 ^ 64 then some (.int (i ^ j.toNat)) else none
  | _, _, _ => none
inductive Cmp where | eq | ne | lt | le | gt | ge | is | isnt
  deriving DecidableEq
mutual
/-- <, of ints, texts, and tuples of such (every pair is to be comparable); none where it is not known -/
def ltD : Nat → D → D → Option Bool
  | _, .int i, .int j => some (decide (i < j))
  | _, .str x, .str y => some (decide (x.cps.toList < y.cps.toList))
  | n + 1, .tup x, .tup y => ltL n x y
  | _, _, _ => none
def ltL : Nat → List D → List D → Option Bool
  | _, [], [] => some false
  | _, [], _ :: _ => some true
  | _, _ :: _, [] => some false
  | n, x :: xs, y :: ys => if pureD n x && pureD n y then (ltL n xs ys).bind fun b => if eqD x y then some b else ltD n x y else none
end
def flatD : D → Bool
  | .non => true | .bl _ => true | .int _ => true | .str _ => true
  | _ => false
def isKey : D → Bool
  | .int _ => true | .str _ => true
  | _ => false
def cmpD : Cmp → D → D → Option Bool
  | .eq, x, y => if pureD 60 x && pureD 60 y then some (eqD x y) else none
  | .ne, x, y => if pureD 60 x && pureD 60 y then some (!eqD x y) else none
  | .lt, x, y => ltD 20 x y
  | .gt, .int i, .int j => some (decide (j < i))
  | .le, .int i, .int j => some (decide (i ≤ j))
  | .ge, .int i, .int j => some (decide (j ≤ i))
  | .is, x, .non => match x with | .non => some true | .fnv _ _ => none | _ => some false
  | .isnt, x, .non => match x with | .non => some false | .fnv _ _ => none | _ => some true
  | _, _, _ => none
def inL (x : D) : List D → Bool
  | [] => false
  | y :: r => eqD y x || inL x r
def lookD (k : D) : List (D × D) → Option D
  | [] => none
  | (a, v) :: r => if eqD a k then some v else lookD k r
def putD (k v : D) (kvs : List (D × D)) : List (D × D) :=
  if kvs.any fun p => eqD p.1 k then kvs.map fun p => if eqD p.1 k then (p.1, v) else p else kvs ++ [(k, v)]
def inD : D → D → Option Bool
  | .str x, .str y => if x.length = 1 then some (decide (x.cps.getD 0 0 ∈ y.cps.toList)) else none
  | x, .lst ys => if pureD 50 x && pureL 50 ys then some (inL x ys) else none
  | x, .tup ys => if flatD x && ys.all flatD then some (inL x ys) else none
  | x, .dic kvs => if isKey x then some (lookD x kvs).isSome else none
  | _, _ => none
/-- the place of an index -/
def ixN (n : Nat) (i : Int) : Option Nat := if 0 ≤ i then (if i < n then some i.toNat else none) else if -(n : Int) ≤ i then some (i + n).toNat else none
def ixD : D → D → Option D
  | .tup ds, .int i => (ixN ds.length i).bind fun j => ds[j]?
  | .lst ds, .int i => (ixN ds.length i).bind fun j => ds[j]?
  | .str x, .int i => (ixN x.length i).bind fun j => (x.cps.toList[j]?).map fun c => .str ⟨#[c]⟩
  | .dic kvs, k => if isKey k then lookD k kvs else none
  | _, _ => none
def cutL (xs : List D) (lo hi : Option Int) : List D := (xs.drop (HT.sIx xs.length 0 lo)).take (HT.sIx xs.length xs.length hi - HT.sIx xs.length 0 lo)
def slD : D → Option Int → Option Int → Option D
  | .tup ds, lo, hi => some (.tup (cutL ds lo hi))
  | .lst ds, lo, hi => some (.lst (cutL ds lo hi))
  | .str x, lo, hi => some (.str (L2.cutS x lo hi))
  | _, _, _ => none
def negD : D → Option D
  | .int i => some (.int (-i))
  | _ => none
def notD : D → Option D
  | .bl b => some (.bl (!b))
  | _ => none
inductive Ty where | int | str | bool | tuple | list | dict | cls (c : Nat)
  deriving DecidableEq
def tyD : D → Ty → Option Bool
  | .non, _ => some false
  | .bl _, t => some (decide (t = .bool ∨ t = .int))
  | .int _, t => some (decide (t = .int))
  | .str _, t => some (decide (t = .str))
  | .tup _, t => some (decide (t = .tuple))
  | .lst _, t => some (decide (t = .list))
  | _, _ => none
def tysD (d : D) : List Ty → Option Bool
  | [] => some false
  | t :: r => (tyD d t).bind fun b => if b then some true else tysD d r
def bools : List D → Option (List Bool)
  | [] => some []
  | .bl b :: r => (bools r).map (b :: ·)
  | _ => none
def intsD : List D → Option (List Int)
  | [] => some []
  | .int i :: r => (intsD r).map (i :: ·)
  | _ => none
def strsD : List D → Option (List Str)
  | [] => some []
  | .str x :: r => (strsD r).map (x :: ·)
  | _ => none
def seqD : D → Option (List D)
  | .tup ds => some ds
  | .lst ds => some ds
  | _ => none
/-- how many unlike ones follow, seen those behind -/
def dcnt : List Str → List Str → Nat
  | _, [] => 0
  | seen, x :: r => (if x ∈ seen then 0 else 1) + dcnt (x :: seen) r
/-- what sorted takes: data that are alike, tuples with an item or none of them a tuple -/
def isTupC : D → Bool
  | .tup (_ :: _) => true
  | _ => false
def isTxI : D → Bool
  | .int _ => true | .str _ => true
  | _ => false
def sortB (ds : List D) : Bool := decide (ds.length ≤ sizeLine) && pureL 20 ds && (ds.all fun a => ds.all fun b => PySem.W.alike (toPy a) (toPy b)) && (ds.all isTupC || ds.all isTxI)
def ltP (a b : D) : Bool := PySem.W.dataLt (toPy a) (toPy b)
def sortD (ds : List D) : List D := ds.mergeSort fun a b => !ltP b a
/-- what a dict display holds -/
def pairsD : List D → Option (List (D × D))
  | [] => some []
  | k :: v :: r => if isKey k then (pairsD r).map ((k, v) :: ·) else none
  | _ => none
/-- a dict display -/
def dspD (ds : List D) : Option D := (pairsD ds).bind fun ps => if ps.length ≤ 15 then some (.dic (ps.foldl (fun acc p => putD p.1 p.2 acc) [])) else none
/-- a text that can stand in the heap -/
def okB (x : Str) : Bool := decide (x.length ≤ sizeLine) && PyData.strOk x
/-- pairs in a list -/
def dictP : List D → Option (List (D × D))
  | [] => some []
  | .tup [k, v] :: r => if isKey k then (dictP r).map ((k, v) :: ·) else none
  | _ => none
def enumL (k : Int) : List D → List D
  | [] => []
  | d :: r => .tup [.int k, d] :: enumL (k + 1) r
def zipL : List D → List D → List D
  | a :: r, b :: s => .tup [a, b] :: zipL r s
  | _, _ => []
/-- a set of whole numbers, sorted -/
def insI (x : Int) : List Int → List Int
  | [] => [x]
  | y :: r => if x < y then x :: y :: r else if x = y then y :: r else y :: insI x r
def ssI : List Int → List Int
  | [] => []
  | x :: r => insI x (ssI r)
/-- built-in functions of values -/
inductive Bi where | len | list | tuple | all | any | sum | max2 | min2 | int | str | sorted | lenset | dict | max1 | min1 | repr | lenum | lzip | sortset | lrng2 | lrng3
  deriving DecidableEq
def rngL (lo : Int) (n : Nat) : List D := (List.range n).map fun k => .int (lo + (k : Nat))
def rngC (lo c : Int) (n : Nat) : List D := (List.range n).map fun k => .int (lo + (k : Nat) * c)
def biD : Bi → List D → Option D
  | .len, [.str x] => some (.int x.length)
  | .len, [.tup ds] => some (.int ds.length)
  | .len, [.lst ds] => some (.int ds.length)
  | .list, [.tup ds] => some (.lst ds)
  | .list, [.lst ds] => some (.lst ds)
  | .tuple, [.tup ds] => some (.tup ds)
  | .tuple, [.lst ds] => some (.tup ds)
  | .all, [.lst ds] => (bools ds).map fun bs => .bl (bs.all id)
  | .any, [.lst ds] => (bools ds).map fun bs => .bl (bs.any id)
  | .sum, [.lst ds] => (intsD ds).map fun ns => .int ns.sum
  | .max2, [.int i, .int j] => some (.int (if j > i then j else i))
  | .min2, [.int i, .int j] => some (.int (if j < i then j else i))
  | .int, [.int i] => some (.int i)
  | .str, [.int i] => if i.natAbs.log2 < 1920 ∧ okB (toString i : String) = true then some (.str (toString i)) else none
  | .sorted, [.lst ds] => if sortB ds then some (.lst (sortD ds)) else none
  | .dict, [.lst ds] => (dictP ds).map fun ps => .dic (ps.foldl (fun acc p => putD p.1 p.2 acc) [])
  | .max1, [.lst ds] => (intsD ds).bind fun ns => if ns = [] then none else some (.int (ns.foldl max (ns.headD 0)))
  | .min1, [.lst ds] => (intsD ds).bind fun ns => if ns = [] then none else some (.int (ns.foldl min (ns.headD 0)))
  | .lrng2, [.int i, .int j] => if -(2 ^ 62) ≤ i ∧ i < 2 ^ 62 ∧ -(2 ^ 62) ≤ j ∧ j < 2 ^ 62 ∧ j - i ≤ 16000000 then some (.lst (rngL i (j - i).toNat)) else none
  | .lrng3, [.int i, .int j, .int k] => if 0 < k ∧ k < 1073741824 ∧ -(2 ^ 60) ≤ i ∧ i < 2 ^ 60 ∧ -(2 ^ 60) ≤ j ∧ j < 2 ^ 60 ∧ j - i ≤ 16000000 then some (.lst (rngC i k ((j - i + k - 1) / k).toNat)) else none
  | .lenum, [x] => (seqD x).map fun ds => .lst (enumL 0 ds)
  | .lzip, [x, y] => (seqD x).bind fun ds => (seqD y).map fun es => .lst (zipL ds es)
  | .sortset, [.lst ds] => (intsD ds).bind fun ns => if ns.length < 62 then some (.lst ((ssI ns).map .int)) else none
  | .lenset, [x] => (seqD x).bind fun ds => (strsD ds).bind fun xs => if xs.length < 4000 then some (.int (dcnt [] xs)) else none
  | _, _ => none
/-- repr of a list, a tuple -/
def rpB (d : D) : Bool := pureD 20 d && ((toPy d).showable && decide ((toPy d).shown.length ≤ sizeLine ∧ PyData.strOk (toPy d).shown = true))
def rpD : D → Option D
  | .tup ds => if rpB (.tup ds) then some (.str (toPy (.tup ds)).shown) else none
  | .lst ds => if rpB (.lst ds) then some (.str (toPy (.lst ds)).shown) else none
  | _ => none
/-- methods of built-in types -/
inductive Mt where | join | count | index | get | replace | split
  deriving DecidableEq
def idxL (x : D) : List D → Option Nat
  | [] => none
  | y :: r => if eqD y x then some 0 else (idxL x r).map (· + 1)
def cntL (x : D) : List D → Nat
  | [] => 0
  | y :: r => (if eqD y x then 1 else 0) + cntL x r
def rcvD : Mt → D → Bool
  | .join, .str _ => true
  | .split, .str _ => true
  | .replace, .str _ => true
  | .count, .lst _ => true
  | .index, .lst _ => true
  | .get, .dic _ => true
  | _, _ => false
def notLD : D → Bool
  | .lst _ => false
  | .dic _ => false
  | _ => true
def mtD : Mt → D → List D → Option D
  | .join, .str s, [x] => (seqD x).bind fun ds => (strsD ds).bind fun xs =>
      if (xs.map (·.length)).sum + xs.length * s.length ≤ 16777216 then some (.str (Txt.join s xs)) else none
  | .count, .lst ds, [x] => if pureD 50 x && pureL 50 ds then some (.int (cntL x ds)) else none
  | .index, .lst ds, [x] => if pureD 50 x && pureL 50 ds then (idxL x ds).map (fun (j : Nat) => D.int (j : Int)) else none
  | .get, .dic kvs, [k] => if isKey k then some ((lookD k kvs).getD .non) else none
  | .get, .dic kvs, [k, x] => if isKey k && notLD x then some ((lookD k kvs).getD x) else none
  | .split, .str x, [.str y] => if y.length ≠ 0 ∧ x.length + 2 ≤ sizeLine ∧ (Txt.split x y).length ≤ sizeLine ∧ (Txt.split x y).all okB = true then some (.lst ((Txt.split x y).map .str)) else none
  | _, _, _ => none

/-! ### the language -/
inductive Tg where
  | nm (i : Nat) | tup (ts : Tg) | nil | cons (a r : Tg)
inductive E where
  | var (i : Nat) | own (i : Nat)
  | non | bl (b : Bool) | int (i : Int) | str (x : Str) | glob (x : Str) (d : D)
  | op (o : Op) (a b : E) | neg (a : E)
  | cmp (o : Cmp) (a b : E) | isin (n : Bool) (a b : E) | chain (o p : Cmp) (a b c : E)
  | and (a b : E) | or (a b : E) | not (a : E) | ife (c a b : E)
  | nil | cons (a r : E) | tup (es : E) | lst (es : E) | dsp (es : E)
  | ix (a i : E) | sl (a : E) (lo hi : Option E)
  | call (x : Str) (g : Fn) (es : E) | make (x : Str) (g : Fn) (es : E) | mcall (m : Str) (c : Nat) (g : Fn) (o es : E)
  | bi (b : Bi) (es : E) | mt (m : Mt) (o es : E) | isi (a : E) (ts : List Ty)
  | fld (o : E) (c j : Nat) (f : Str)
  | comp (own : List (Str × Nat)) (tg : Tg) (it : E) (ifs : Option E) (elt : E)
  | lam (n : Nat) (ps : List Str) (g : E) | lcall (i : Nat) (fv : Nat → List D → Fn) (es : E)
  | rng1 (a : E) | rng2 (a b : E) | rng3 (a b c : E) | enum (a : E) | zip (a b : E) | zip3 (a b c : E)
  | rowi (a : E) (j : Nat) | rowlen (a : E) | rowix (a i : E)
  | isx (i : Nat) (ks cs : List Nat) (y : Str) | xf (i : Nat) (js : List (Nat × Nat)) (f : Str) | told (x : Str) (ns : List (Nat × Str)) (b : E) | rp (a : E) | gcall (x : Str) (g : Fn) (es : E)
  | iso (a : E) (cn : Nat) (y : Str)
  | clam (n : Nat) (b : E) | tells (i j : Nat) (nums : List Nat) (own : List (Str × Nat)) (bs : E)

/-- a slot: without a value; data; a list of its own, a dict of its own (nobody else holds it); the object that __init__ makes, its fields so far; the exception in hand -/
inductive Slot where
  | un | val (d : D) | own (ds : List D) | ownd (kvs : List (D × D)) | me (c : Nat) (ds : List D) | exc (x : Exc)
  deriving Inhabited
abbrev St := List Slot

mutual
def asg : Tg → D → St → Option St
  | .nm i, d, σ => some (σ.set i (.val d))
  | .tup ts, .tup ds, σ => asgs ts ds σ
  | _, _, _ => none
def asgs : Tg → List D → St → Option St
  | .nil, [], σ => some σ
  | .cons t r, d :: ds, σ => (asg t d σ).bind fun σ' => asgs r ds σ'
  | _, _, _ => none
end
def killS (σ : St) : List Nat → St
  | [] => σ
  | i :: r => killS (σ.set i .un) r
def zip3L : List D → List D → List D → List D
  | a :: r, b :: s, c :: t => .tup [a, b, c] :: zip3L r s t
  | _, _, _ => []
/-- what a loop walks -/
def iterD : D → Option (List D)
  | .tup ds => some ds
  | .lst ds => some ds
  | .str x => some (x.cps.toList.map fun c => .str ⟨#[c]⟩)
  | _ => none
def mapR (f : D → Rho → Rs (Option D)) : List D → Rho → Rs (List D)
  | [], r => .ok [] r
  | d :: ds, r => (f d r).bind fun o r => (mapR f ds r).bind fun l r => .ok (match o with | some x => x :: l | none => l) r
def capsD (σ : St) : List Nat → Option (List D)
  | [] => some []
  | i :: r => match σ[i]? with
    | some (.val d) => (capsD σ r).map (d :: ·)
    | _ => none
/-- the parts of the row that are numbers -/
def rowI (r : Rho) : Nat → Option Int
  | 1 => some r.i | 2 => some r.n | 3 => some r.c | _ => none
def rowSet (r : Rho) (v : Int) : Nat → Option Rho
  | 1 => some { r with i := v } | 2 => some { r with n := v } | 3 => some { r with c := v } | _ => none
def rowG (j : Nat) : D → Rho → Rs D
  | .row, r => .lift ((rowI r j).map .int) r
  | _, _ => .stuck
def rowLen : D → Rho → Rs D
  | .row, r => .ok (.int r.ns.length) r
  | _, _ => .stuck
def rowIx (ns : List Int) : D → Rho → Rs D
  | .int i, r => .lift ((ixN ns.length i).bind fun m => (ns[m]?).map .int) r
  | _, _ => .stuck
/-- the lambdas of a list of ours, by their numbers -/
def fnsB : List Nat → List D → Bool
  | [], [] => true
  | n :: ns, .fnv m [.non] :: ds => decide (m = n) && fnsB ns ds
  | _, _ => false
def intD : D → Option Int
  | .int i => some i
  | _ => none
def ev : E → St → Rho → Rs D
  | .var i, σ, r => match σ[i]? with
    | some (.val d) => .ok d r
    | _ => .stuck
  | .own i, σ, r => match σ[i]? with
    | some (.own ds) => .ok (.lst ds) r
    | some (.ownd kvs) => .ok (.dic kvs) r
    | _ => .stuck
  | .non, _, r => .ok .non r
  | .bl b, _, r => .ok (.bl b) r
  | .int i, _, r => .ok (.int i) r
  | .str x, _, r => .ok (.str x) r
  | .glob _ d, _, r => .ok d r
  | .op o a b, σ, r => (ev a σ r).bind fun x r => (ev b σ r).bind fun y r => .lift (opD o x y) r
  | .neg a, σ, r => (ev a σ r).bind fun x r => .lift (negD x) r
  | .cmp o a b, σ, r => (ev a σ r).bind fun x r => (ev b σ r).bind fun y r => .lift ((cmpD o x y).map .bl) r
  | .isin n a b, σ, r => (ev a σ r).bind fun x r => (ev b σ r).bind fun y r => .lift ((inD x y).map fun k => .bl (k != n)) r
  | .chain o p a b c, σ, r => (ev a σ r).bind fun x r => (ev b σ r).bind fun y r => match cmpD o x y with
    | some true => (ev c σ r).bind fun z r => .lift ((cmpD p y z).map .bl) r
    | some false => .ok (.bl false) r
    | none => .stuck
  | .and a b, σ, r => (ev a σ r).bind fun x r => match x with
    | .bl true => ev b σ r
    | .bl false => .ok (.bl false) r
    | _ => .stuck
  | .or a b, σ, r => (ev a σ r).bind fun x r => match x with
    | .bl true => .ok (.bl true) r
    | .bl false => ev b σ r
    | _ => .stuck
  | .not a, σ, r => (ev a σ r).bind fun x r => .lift (notD x) r
  | .ife c a b, σ, r => (ev c σ r).bind fun x r => match x with
    | .bl true => ev a σ r
    | .bl false => ev b σ r
    | _ => .stuck
  | .nil, _, r => .ok (.tup []) r
  | .cons a es, σ, r => (ev a σ r).bind fun x r => (ev es σ r).bind fun l r => match l with
    | .tup ds => .ok (.tup (x :: ds)) r
    | _ => .stuck
  | .tup es, σ, r => ev es σ r
  | .lst es, σ, r => (ev es σ r).bind fun l r => match l with
    | .tup ds => .ok (.lst ds) r
    | _ => .stuck
  | .dsp es, σ, r => (ev es σ r).bind fun l r => match l with
    | .tup ds => .lift (dspD ds) r
    | _ => .stuck
  | .ix a i, σ, r => (ev a σ r).bind fun x r => (ev i σ r).bind fun y r => .lift (ixD x y) r
  | .sl a lo hi, σ, r => (ev a σ r).bind fun x r =>
    (match lo with
      | some e => (ev e σ r).bind fun y r => .lift ((intD y).map some) r
      | none => .ok none r).bind fun l r =>
    (match hi with
      | some e => (ev e σ r).bind fun y r => .lift ((intD y).map some) r
      | none => .ok none r).bind fun h r => .lift (slD x l h) r
  | .call _ g es, σ, r => (ev es σ r).bind fun l r => match l with
    | .tup ds => g ds r
    | _ => .stuck
  | .make _ g es, σ, r => (ev es σ r).bind fun l r => match l with
    | .tup ds => g ds r
    | _ => .stuck
  | .mcall _ c g o es, σ, r => (ev o σ r).bind fun x r => match x with
    | .obj c' fs => if c' = c then (ev es σ r).bind fun l r => (match l with
      | .tup ds => g (.obj c' fs :: ds) r
      | _ => .stuck) else .stuck
    | _ => .stuck
  | .bi b es, σ, r => (ev es σ r).bind fun l r => match l with
    | .tup ds => .lift (biD b ds) r
    | _ => .stuck
  | .mt m o es, σ, r => (ev o σ r).bind fun x r => if rcvD m x then (ev es σ r).bind fun l r => (match l with
    | .tup ds => .lift (mtD m x ds) r
    | _ => .stuck) else .stuck
  | .isi a ts, σ, r => (ev a σ r).bind fun x r => .lift ((tysD x ts).map .bl) r
  | .fld o c j _, σ, r => (ev o σ r).bind fun x r => match x with
    | .obj c' ds => if c' = c then .lift ds[j]? r else .stuck
    | _ => .stuck
  | .comp own tg it ifs elt, σ, r => (ev it σ r).bind fun x r => match iterD x with
    | some ds => ((mapR (fun d r => match asg tg d (killS σ (own.map (·.2))) with
        | some σ' => (match ifs with
          | some c => (ev c σ' r).bind fun b r => (match b with
            | .bl true => (ev elt σ' r).bind fun y r => .ok (some y) r
            | .bl false => .ok none r
            | _ => .stuck)
          | none => (ev elt σ' r).bind fun y r => .ok (some y) r)
        | none => .stuck) ds r).bind fun l r => .ok (.lst l) r).calm
    | none => .stuck
  | .lam n _ _, _, r => .ok (.fnv n []) r
  | .lcall i fv es, σ, r => match σ[i]? with
    | some (.val (.fnv n [])) => (ev es σ r).bind fun l r => (match l with
      | .tup ds => fv n [] ds r
      | _ => .stuck)
    | _ => .stuck
  | .rng1 a, σ, r => (ev a σ r).bind fun x r => match x with
    | .int j => if -(2 ^ 62) ≤ j ∧ j ≤ 16000000 then .ok (.lst (rngL 0 j.toNat)) r else .stuck
    | _ => .stuck
  | .rng2 a b, σ, r => (ev a σ r).bind fun x r => (ev b σ r).bind fun y r => match x, y with
    | .int i, .int j => if -(2 ^ 62) ≤ i ∧ i < 2 ^ 62 ∧ -(2 ^ 62) ≤ j ∧ j < 2 ^ 62 ∧ j - i ≤ 16000000 then .ok (.lst (rngL i (j - i).toNat)) r else .stuck
    | _, _ => .stuck
  | .rng3 a b c, σ, r => (ev a σ r).bind fun x r => (ev b σ r).bind fun y r => (ev c σ r).bind fun z r => match x, y, z with
    | .int i, .int j, .int k => if 0 < k ∧ k < 1073741824 ∧ -(2 ^ 60) ≤ i ∧ i < 2 ^ 60 ∧ -(2 ^ 60) ≤ j ∧ j < 2 ^ 60 ∧ j - i ≤ 16000000 then .ok (.lst (rngC i k ((j - i + k - 1) / k).toNat)) r else .stuck
    | _, _, _ => .stuck
  | .rowi a j, σ, r => (ev a σ r).bind (rowG j)
  | .rowlen a, σ, r => (ev a σ r).bind rowLen
  | .rowix a i, σ, r => (ev a σ r).bind fun x r => match x with
    | .row => (ev i σ r).bind (rowIx r.ns)
    | _ => .stuck
  | .iso a cn _, σ, r => (ev a σ r).bind fun x r => match x with
    | .obj c _ => if c = cn then .ok (.bl true) r else .stuck
    | _ => .stuck
  | .isx i ks cs _, σ, r => match σ[i]? with
    | some (.exc x) => if ks.contains x.c then .ok (.bl (cs.contains x.c)) r else .stuck
    | _ => .stuck
  | .xf i js _, σ, r => match σ[i]? with
    | some (.exc x) => .lift ((js.lookup x.c).bind fun j => x.ds[j]?) r
    | _ => .stuck
  | .rp a, σ, r => (ev a σ r).bind fun x r => .lift (rpD x) r
  | .gcall _ g es, σ, r => (ev es σ r).bind fun l r => match l with
    | .tup ds => g ds r
    | _ => .stuck
  | .clam n _, _, r => .ok (.fnv n [.non]) r
  | .tells i j nums _ bs, σ, r => match σ[i]? with
    | some (.val (.lst ds)) => if fnsB nums ds && decide (j < σ.length) then ((ev bs σ r).bind fun l r => match l with
      | .tup ds => .ok (.lst ds) r
      | _ => .stuck) else .stuck
    | _ => .stuck
  | .told _ ns b, σ, r => match ev b σ r with
    | .ok d r => .ok (.tup [.str "told", d]) r
    | .exc x r => .lift ((ns.lookup x.c).map fun n => .tup (.str n :: x.ds)) r
    | .stuck => .stuck
  | .enum a, σ, r => (ev a σ r).bind fun x r => .lift ((seqD x).map fun ds => .lst (enumL 0 ds)) r
  | .zip a b, σ, r => (ev a σ r).bind fun x r => (ev b σ r).bind fun y r => .lift ((seqD x).bind fun ds => (seqD y).map fun es => .lst (zipL ds es)) r
  | .zip3 a b c, σ, r => (ev a σ r).bind fun x r => (ev b σ r).bind fun y r => (ev c σ r).bind fun z r =>
    .lift ((seqD x).bind fun ds => (seqD y).bind fun es => (seqD z).map fun fs => .lst (zip3L ds es fs)) r

inductive S where
  | nil | cons (a r : S)
  | skip | set (tg : Tg) (e : E) | setO (i : Nat) (e : E) | setT (own : List (Nat × Bool)) (es : E)
  | app (i : Nat) (e : E) | ext (i : Nat) (e : E) | put (i : Nat) (k e : E)
  | expr (e : E) | ret (e : E) | retN
  | ifs (c : E) (a b : S) | fors (tg : Tg) (it : E) (body : S) (kills : List Nat)
  | brk | cnt | raise (x : Str) (c n : Nat) (es : E) | nev | aug (i : Nat) (e : E)
  | frz (i : Nat) | kill (is : List Nat)
  | rowset (i j : Nat) (e : E)
  | fset (c j : Nat) (f : Str) (e : E) | fsets (c j : Nat) (fs : List Str) (e : E)

inductive Fl where
  | nx (σ : St) | ret (d : D) | brk (σ : St) | cnt (σ : St)
def setTs (σ : St) : List (Nat × Bool) → List D → Option St
  | [], [] => some σ
  | (i, o) :: l, d :: ds => (setTs σ l ds).bind fun σ' => match o, d with
    | true, .lst xs => some (σ'.set i (.own xs))
    | true, .dic kvs => some (σ'.set i (.ownd kvs))
    | true, _ => none
    | false, d => some (σ'.set i (.val d))
  | _, _ => none
def forR (f : D → St → Rho → Rs Fl) (kills : List Nat) : List D → St → Rho → Rs Fl
  | [], σ, r => .ok (.nx σ) r
  | d :: ds, σ, r => (f d σ r).bind fun fl r => match fl with
    | .nx σ' => forR f kills ds (killS σ' kills) r
    | .cnt σ' => forR f kills ds (killS σ' kills) r
    | .brk σ' => .ok (.nx (killS σ' kills)) r
    | .ret d => .ok (.ret d) r
def evS : S → St → Rho → Rs Fl
  | .nil, σ, r => .ok (.nx σ) r
  | .cons a b, σ, r => (evS a σ r).bind fun fl r => match fl with
    | .nx σ' => evS b σ' r
    | fl => .ok fl r
  | .skip, σ, r => .ok (.nx σ) r
  | .set tg e, σ, r => (ev e σ r).bind fun d r => .lift ((asg tg d σ).map .nx) r
  | .setO i e, σ, r => (ev e σ r).bind fun d r => match d with
    | .lst ds => .ok (.nx (σ.set i (.own ds))) r
    | .dic kvs => .ok (.nx (σ.set i (.ownd kvs))) r
    | _ => .stuck
  | .setT own es, σ, r => (ev es σ r).bind fun l r => match l with
    | .tup ds => .lift ((setTs σ own ds).map .nx) r
    | _ => .stuck
  | .app i e, σ, r => match σ[i]? with
    | some (.own ds) => (ev e σ r).bind fun d r => if ds.length < sizeLine then .ok (.nx (σ.set i (.own (ds ++ [d])))) r else .stuck
    | _ => .stuck
  | .ext i e, σ, r => match σ[i]? with
    | some (.own ds) => (ev e σ r).bind fun d r => (match d with
      | .lst es => if ds.length + es.length ≤ sizeLine then .ok (.nx (σ.set i (.own (ds ++ es)))) r else .stuck
      | _ => .stuck)
    | _ => .stuck
  | .put i k e, σ, r => (ev e σ r).bind fun d r => match σ[i]? with
    | some (.own ds) => (ev k σ r).bind fun k r => (match k with
      | .int j => (match ixN ds.length j with
        | some m => .ok (.nx (σ.set i (.own (ds.set m d)))) r
        | none => .stuck)
      | _ => .stuck)
    | some (.ownd kvs) => (ev k σ r).bind fun k r => if isKey k = true ∧ kvs.length < sizeLine then .ok (.nx (σ.set i (.ownd (putD k d kvs)))) r else .stuck
    | _ => .stuck
  | .expr e, σ, r => (ev e σ r).bind fun _ r => .ok (.nx σ) r
  | .ret e, σ, r => (ev e σ r).bind fun d r => .ok (.ret d) r
  | .retN, _, r => .ok (.ret .non) r
  | .ifs c a b, σ, r => (ev c σ r).bind fun x r => match x with
    | .bl true => evS a σ r
    | .bl false => evS b σ r
    | _ => .stuck
  | .fors tg it body kills, σ, r => (ev it σ r).bind fun x r => match iterD x with
    | some ds => forR (fun d σ r => match asg tg d σ with
      | some σ' => evS body σ' r
      | none => .stuck) kills ds σ r
    | none => .stuck
  | .nev, _, _ => .stuck
  | .brk, σ, r => .ok (.brk σ) r
  | .cnt, σ, r => .ok (.cnt σ) r
  | .raise _ c n es, σ, r => (ev es σ r).bind fun l r => match l with
    | .tup ds => if ds.length = n then .exc ⟨c, ds⟩ r else .stuck
    | _ => .stuck
  | .aug i e, σ, r => match σ[i]? with
    | some (.val (.int a)) => (ev e σ r).bind fun y r => (match y with
      | .int b => .ok (.nx (σ.set i (.val (.int (a + b))))) r
      | _ => .stuck)
    | _ => .stuck
  | .frz i, σ, r => match σ[i]? with
    | some (.own ds) => .ok (.nx (σ.set i (.val (.lst ds)))) r
    | some (.ownd kvs) => .ok (.nx (σ.set i (.val (.dic kvs)))) r
    | _ => .stuck
  | .kill is, σ, r => .ok (.nx (killS σ is)) r
  | .rowset i j e, σ, r => (ev e σ r).bind fun d r => match σ[i]?, d with
    | some (.val .row), .int v => (match rowSet r v j with
      | some r => .ok (.nx σ) r
      | none => .stuck)
    | _, _ => .stuck
  | .fset c j _ e, σ, r => (ev e σ r).bind fun d r => match σ[(0 : Nat)]? with
    | some (.me c' ds) => if c' = c ∧ ds.length = j then .ok (.nx (σ.set 0 (.me c (ds ++ [d])))) r else .stuck
    | _ => .stuck
  | .fsets c j fs e, σ, r => (ev e σ r).bind fun d r => match σ[(0 : Nat)]?, d with
    | some (.me c' ds), .tup es => if c' = c ∧ ds.length = j ∧ es.length = fs.length then .ok (.nx (σ.set 0 (.me c (ds ++ es)))) r else .stuck
    | _, _ => .stuck
/-- a def: n names, m of them parameters -/
def startD (n : Nat) (ds : List D) : St := ds.map .val ++ List.replicate (n - ds.length) .un
def runF (n m : Nat) (b : S) : Fn := fun ds r => if ds.length = m then (evS b (startD n ds) r).bind fun fl r => match fl with
    | .nx _ => .ok .non r
    | .ret d => .ok d r
    | _ => .stuck
  else .stuck
/-- a lambda of n parameters -/
def lamF (n : Nat) (g : E) : Fn := fun ds r => if ds.length = n then ev g (startD n ds) r else .stuck
/-- __init__ of the class c with nf fields -/
def runI (c nf n m : Nat) (b : S) : Fn := fun ds r => if ds.length + 1 = m then (evS b (.me c [] :: startD (n - 1) ds) r).bind fun fl r => match fl with
    | .nx (.me c' fs :: _) => if c' = c ∧ fs.length = nf then .ok (.obj c fs) r else .stuck
    | _ => .stuck
  else .stuck
end DI
set_option Elab.async false
set_option linter.all false
set_option maxRecDepth 100000
/-! Sa: what a value of the machine stands for; the frozen part of the heap; the invariant of a frame. -/
namespace DI
open PySem PySem.Spec PyProof.Rows
open L2 hiding ixN

/-! ### heaps -/
def Le (F H : Hp) : Prop := ∀ b o, F b = some o → H b = some o
theorem upd_some {F : Hp} {p c : Addr} {o : HO} (h : F c ≠ none) : upd F p o c ≠ none := by
  by_cases hb : c = p
  · rw [hb, upd_same]; exact fun z => by cases z
  · rw [upd_ne hb]; exact h
def IsTbl (o : HO) : Prop := ∃ ps, o = .tbl ps
theorem Le.refl (F : Hp) : Le F F := fun _ _ h => h
theorem Le.trans {F G H : Hp} (a : Le F G) (b : Le G H) : Le F H := fun c o h => b c o (a c o h)
/-- all stays but what stands at R, and the tables grow -/
def Kept (R : Addr) (H H' : Hp) : Prop := ∀ b o, H b = some o → ∃ o', H' b = some o' ∧ (b ≠ R → ¬ IsTbl o → o' = o) ∧ (IsTbl o → IsTbl o')
theorem Kept.refl (R : Addr) (H : Hp) : Kept R H H := fun _ o h => ⟨o, h, fun _ _ => rfl, fun t => t⟩
theorem Kept.trans {R : Addr} {H H1 H2 : Hp} (a : Kept R H H1) (b : Kept R H1 H2) : Kept R H H2 := fun c o h => by
  obtain ⟨o1, e1, k1, t1⟩ := a c o h
  obtain ⟨o2, e2, k2, t2⟩ := b c o1 e1
  exact ⟨o2, e2, fun hc nt => by rw [k2 hc (by rw [k1 hc nt]; exact nt), k1 hc nt], fun t => t2 (t1 t)⟩
theorem Kept.gone {R : Addr} {H H' : Hp} (k : Kept R H H') {a : Addr} (h : H' a = none) : H a = none := by
  cases q : H a with
  | none => rfl
  | some o => obtain ⟨o', e, _⟩ := k a o q; rw [h] at e; cases e
theorem Kept.at_ {R : Addr} {H H' : Hp} (k : Kept R H H') {a : Addr} {o : HO} (h : H a = some o) (n : a ≠ R) (t : ¬ IsTbl o) : H' a = some o := by
  obtain ⟨o', e, k1, _⟩ := k a o h
  rw [e, k1 n t]
theorem Kept.new {R : Addr} {H : Hp} {p : Addr} {o : HO} (h : H p = none) : Kept R H (upd H p o) := fun b u e => ⟨u, by rw [upd_ne (ne_of_none e h)]; exact e, fun _ _ => rfl, fun t => t⟩
theorem nt_lst {xs : List V} : ¬ IsTbl (.lst xs) := fun ⟨_, e⟩ => by cases e
theorem nt_tup {xs : List V} : ¬ IsTbl (.tup xs) := fun ⟨_, e⟩ => by cases e
theorem nt_dK {xs : List (Key × V)} : ¬ IsTbl (.dK xs) := fun ⟨_, e⟩ => by cases e
theorem nt_ins {C dx : Addr} {fs : List (Str × V)} : ¬ IsTbl (.ins C dx fs) := fun ⟨_, e⟩ => by cases e
theorem nt_frz {o : Obj} {u : HO} : ¬ IsTbl (.frz o u) := fun ⟨_, e⟩ => by cases e
theorem nt_ext {φ : Heap → Prop} : ¬ IsTbl (.ext φ) := fun ⟨_, e⟩ => by cases e

/-- what the law's own lambdas are: by their bodies; the function at f, its code object, its defaults -/
structure LcT where
  p : E → Addr → Addr → Addr → Int → Hp → Prop
  m : ∀ b f c t i F F', Le F F' → p b f c t i F → p b f c t i F'
def LcT.no : LcT := ⟨fun _ _ _ _ _ _ => False, fun _ _ _ _ _ _ _ _ h => h⟩
/-- what is fixed through a law -/
structure Wd where
  P : Program
  w : World
  K : PySem.W.Frag
  mg : Str → Option Value
  base : Heap
  /-- the classes: where they stand, their fields -/
  ca : Nat → Addr
  cf : Nat → List Str
  /-- the tables of code objects -/
  T : List (Addr × Str)
  /-- the object that an __init__ makes -/
  me : Addr
  /-- the exception in hand: its class, its dict -/
  mc : Value
  md : Option Addr
  /-- the lambdas that are handed on: their parameters, their bodies -/
  lams : Nat → Option (List Str × E)
  /-- the defs that are handed on -/
  dfs : Nat → Option Str
  /-- what a function is that is handed on -/
  fo : Nat → List V → V → Hp → Prop
  foM : ∀ n cs v F F', Le F F' → fo n cs v F → fo n cs v F'
  /-- the law's own lambdas -/
  clms : Nat → Option E
  lc : LcT
def Wd.setLc (W : Wd) (lc : LcT) : Wd := { W with lc := lc }

def okS (x : Str) : Prop := x.length ≤ sizeLine ∧ PyData.strOk x = true
theorem Le.sqT {K : PySem.W.Frag} {F F' : Hp} (e : Le F F') {a : Addr} {xs : List V} (h : SqT K F a xs) : SqT K F' a xs := by
  rcases h with (h | ⟨o, h⟩) | h
  · exact .inl (.inl (e _ _ h))
  · exact .inl (.inr ⟨o, e _ _ h⟩)
  · exact .inr h
theorem Le.sqL {K : PySem.W.Frag} {F F' : Hp} (e : Le F F') {a : Addr} {xs : List V} (h : SqL K F a xs) : SqL K F' a xs := by
  rcases h with (h | ⟨o, h⟩) | h
  · exact .inl (.inl (e _ _ h))
  · exact .inl (.inr ⟨o, e _ _ h⟩)
  · exact .inr h
/-- a key of a dict, as data -/
def keyD : Key → D
  | .inl i => .int i
  | .inr x => .str x

mutual
inductive Rep (W : Wd) (R : Addr) (F : Hp) : V → D → Prop
  | non : Rep W R F .non .non
  | bl (b : Bool) : Rep W R F (.bl b) (.bl b)
  | int (i : Int) : Rep W R F (.int i) (.int i)
  | str (x : Str) (h : okS x) : Rep W R F (.str x) (.str x)
  | tup {a : Addr} {xs : List V} {ds : List D} (h : SqT W.K F a xs) (l : xs.length ≤ sizeLine) (r : Reps W R F xs ds) : Rep W R F (.ref a) (.tup ds)
  | lst {a : Addr} {xs : List V} {ds : List D} (h : F a = some (.lst xs)) (l : xs.length ≤ sizeLine) (r : Reps W R F xs ds) : Rep W R F (.ref a) (.lst ds)
  | dic {a : Addr} {kvs : List (Key × V)} {ds : List (D × D)} (h : F a = some (.dK kvs)) (l : kvs.length ≤ sizeLine) (r : RepKV W R F kvs ds) : Rep W R F (.ref a) (.dic ds)
  | obj {a dx : Addr} {c : Nat} {fs : List (Str × V)} {ds : List D} (h : F a = some (.ins (W.ca c) dx fs)) (hk : fs.map (·.1) = W.cf c) (r : Reps W R F (fs.map (·.2)) ds) : Rep W R F (.ref a) (.obj c ds)
  | fnv {v : V} {n : Nat} {cs : List V} {caps : List D} (h : W.fo n cs v F) (r : Reps W R F cs caps) : Rep W R F v (.fnv n caps)
  | row : Rep W R F (.ref R) .row
  | clm {f c t : Addr} {i : Int} {n : Nat} {b : E} (h : W.clms n = some b) (hl : W.lc.p b f c t i F) : Rep W R F (.ref f) (.fnv n [.non])
inductive Reps (W : Wd) (R : Addr) (F : Hp) : List V → List D → Prop
  | nil : Reps W R F [] []
  | cons {v : V} {vs : List V} {d : D} {ds : List D} : Rep W R F v d → Reps W R F vs ds → Reps W R F (v :: vs) (d :: ds)
inductive RepKV (W : Wd) (R : Addr) (F : Hp) : List (Key × V) → List (D × D) → Prop
  | nil : RepKV W R F [] []
  | cons {k : Key} {v : V} {r : List (Key × V)} {d : D} {ds : List (D × D)} (hk : ∀ x, k = .inr x → okS x) : Rep W R F v d → RepKV W R F r ds → RepKV W R F ((k, v) :: r) ((keyD k, d) :: ds)
end

section
variable {W : Wd} {R : Addr} {F F' : Hp}
mutual
theorem Rep.mono (e : Le F F') : ∀ {v : V} {d : D}, Rep W R F v d → Rep W R F' v d
  | _, _, .non => .non
  | _, _, .bl b => .bl b
  | _, _, .int i => .int i
  | _, _, .str x h => .str x h
  | _, _, .tup h l r => .tup (e.sqT h) l (Reps.mono e r)
  | _, _, .lst h l r => .lst (e _ _ h) l (Reps.mono e r)
  | _, _, .dic h l r => .dic (e _ _ h) l (RepKV.mono e r)
  | _, _, .obj h hk r => .obj (e _ _ h) hk (Reps.mono e r)
  | _, _, .fnv h r => .fnv (W.foM _ _ _ _ _ e h) (Reps.mono e r)
  | _, _, .row => .row
  | _, _, .clm h hl => .clm h (W.lc.m _ _ _ _ _ _ _ e hl)
theorem Reps.mono (e : Le F F') : ∀ {vs : List V} {ds : List D}, Reps W R F vs ds → Reps W R F' vs ds
  | _, _, .nil => .nil
  | _, _, .cons a b => .cons (Rep.mono e a) (Reps.mono e b)
theorem RepKV.mono (e : Le F F') : ∀ {vs : List (Key × V)} {ds : List (D × D)}, RepKV W R F vs ds → RepKV W R F' vs ds
  | _, _, .nil => .nil
  | _, _, .cons hk a b => .cons hk (Rep.mono e a) (RepKV.mono e b)
end
theorem Reps.length : ∀ {vs : List V} {ds : List D}, Reps W R F vs ds → vs.length = ds.length
  | _, _, .nil => rfl
  | _, _, .cons _ b => by simp [Reps.length b]
theorem RepKV.length : ∀ {vs : List (Key × V)} {ds : List (D × D)}, RepKV W R F vs ds → vs.length = ds.length
  | _, _, .nil => rfl
  | _, _, .cons _ _ b => by simp [RepKV.length b]
theorem Reps.append : ∀ {xs ys : List V} {ds es : List D}, Reps W R F xs ds → Reps W R F ys es → Reps W R F (xs ++ ys) (ds ++ es)
  | _, _, _, _, .nil, s => s
  | _, _, _, _, .cons a b, s => .cons a (Reps.append b s)
theorem Reps.get : ∀ {xs : List V} {ds : List D} {i : Nat} {d : D}, Reps W R F xs ds → ds[i]? = some d → ∃ v, xs[i]? = some v ∧ Rep W R F v d
  | _, _, _, _, .nil, e => by simp at e
  | _, _, 0, _, .cons a _, e => by simp at e; subst e; exact ⟨_, rfl, a⟩
  | _, _, i + 1, d, .cons _ b, e => by
    obtain ⟨v, h1, h2⟩ := Reps.get (i := i) (d := d) b (by simpa using e)
    exact ⟨v, by simpa using h1, h2⟩
theorem Reps.get' : ∀ {xs : List V} {ds : List D} {i : Nat} {v : V}, Reps W R F xs ds → xs[i]? = some v → ∃ d, ds[i]? = some d ∧ Rep W R F v d
  | _, _, _, _, .nil, e => by simp at e
  | _, _, 0, _, .cons a _, e => by simp at e; subst e; exact ⟨_, rfl, a⟩
  | _, _, i + 1, d, .cons _ b, e => by
    obtain ⟨v, h1, h2⟩ := Reps.get' (i := i) (v := d) b (by simpa using e)
    exact ⟨v, by simpa using h1, h2⟩
theorem Reps.take : ∀ {xs : List V} {ds : List D} (n : Nat), Reps W R F xs ds → Reps W R F (xs.take n) (ds.take n)
  | _, _, 0, _ => .nil
  | _, _, _ + 1, .nil => .nil
  | _, _, n + 1, .cons a b => .cons a (Reps.take n b)
theorem Reps.drop : ∀ {xs : List V} {ds : List D} (n : Nat), Reps W R F xs ds → Reps W R F (xs.drop n) (ds.drop n)
  | _, _, 0, r => r
  | _, _, _ + 1, .nil => .nil
  | _, _, n + 1, .cons _ b => Reps.drop n b
theorem Reps.set {v : V} {d : D} (r : Rep W R F v d) : ∀ {xs : List V} {ds : List D} (i : Nat), Reps W R F xs ds → Reps W R F (xs.set i v) (ds.set i d)
  | _, _, _, .nil => .nil
  | _, _, 0, .cons _ t => .cons r t
  | _, _, i + 1, .cons q t => .cons q (Reps.set r i t)
theorem Reps.rep {xs : List V} {ds : List D} (h : Reps W R F xs ds) : ∀ k : Nat, Reps W R F (List.replicate k xs).flatten (List.replicate k ds).flatten
  | 0 => .nil
  | k + 1 => by
    rw [List.replicate_succ, List.replicate_succ, List.flatten_cons, List.flatten_cons]
    exact h.append (Reps.rep h k)

/-- the row of drawn numbers -/
def RowAt (W : Wd) (R : Addr) (F H : Hp) (r : Rho) : Prop := ∃ a, H R = some (.lst [.ref a, .int r.i, .int r.n, .int r.c]) ∧ SqL W.K F a (r.ns.map V.int)
theorem RowAt.mono {r : Rho} (h : RowAt W R F H r) (e : Le F F') : RowAt W R F' H r := let ⟨a, e1, e2⟩ := h; ⟨a, e1, e.sqL e2⟩
structure Good (W : Wd) (R : Addr) (F H : Hp) (r : Rho) : Prop where
  le : Le F H
  fR : F R = none
  ft : ∀ b o, F b = some o → ¬ IsTbl o
  row : RowAt W R F H r
  tabs : LamX.Tabs W.T H
  cod : ∀ c q, H c = some (LamX.CodeO c q) → F c ≠ none
structure Grow (R : Addr) (F H F' H' : Hp) : Prop where
  le : Le F F'
  kept : Kept R H H'
  new : ∀ b, F b = none → F' b ≠ none → H b = none
theorem Grow.refl (R : Addr) (F H : Hp) : Grow R F H F H := ⟨Le.refl _, Kept.refl _ _, fun _ h n => absurd h n⟩
theorem Grow.trans {F1 H H1 F2 H2 : Hp} (a : Grow R F H F1 H1) (b : Grow R F1 H1 F2 H2) : Grow R F H F2 H2 :=
  ⟨a.le.trans b.le, a.kept.trans b.kept, fun c h n => by
    by_cases q : F1 c = none
    · exact a.kept.gone (b.new c q n)
    · exact a.new c h q⟩

/-- an error: its class, its fields in the dict at dd -/
def RepX (W : Wd) (R : Addr) (F : Hp) (cls : Value) (dd : Option Addr) (x : Exc) : Prop :=
  ∃ d fs, dd = some d ∧ cls = .ref (W.ca x.c) ∧ F d = some (.xd fs) ∧ (∀ (j : Nat) (f : Str), (W.cf x.c)[j]? = some f → ∃ v y, fs.lookup f = some v ∧ x.ds[j]? = some y ∧ Rep W R F v y) ∧ x.ds.length = (W.cf x.c).length
theorem RepX.mono {cls : Value} {dd : Option Addr} {x : Exc} (e : Le F F') (h : RepX W R F cls dd x) : RepX W R F' cls dd x := by
  obtain ⟨d, fs, a, b, c, z, l⟩ := h
  exact ⟨d, fs, a, b, e _ _ c, fun j f q => let ⟨v, y, e1, e2, e3⟩ := z j f q; ⟨v, y, e1, e2, e3.mono e⟩, l⟩
/-- a slot -/
def SlotOk (W : Wd) (R : Addr) (H0 F H : Hp) (o : Option V) : Slot → Prop
  | .un => True
  | .val d => ∃ v, o = some v ∧ Rep W R F v d
  | .own ds => ∃ a xs, o = some (.ref a) ∧ H a = some (.lst xs) ∧ xs.length ≤ sizeLine ∧ Reps W R F xs ds ∧ F a = none ∧ a ≠ R ∧ H0 a = none
  | .ownd ds => ∃ a xs, o = some (.ref a) ∧ H a = some (.dK xs) ∧ xs.length ≤ sizeLine ∧ RepKV W R F xs ds ∧ F a = none ∧ a ≠ R ∧ H0 a = none
  | .me c ds => ∃ a dx fs, o = some (.ref a) ∧ H a = some (.ins (W.ca c) dx fs) ∧ fs.map (·.1) = (W.cf c).take ds.length ∧ Reps W R F (fs.map (·.2)) ds ∧ F a = none ∧ a ≠ R ∧ H0 a = none ∧ a = W.me
  | .exc x => o = some (.ref W.me) ∧ RepX W R F W.mc W.md x
def isOwn : Slot → Bool
  | .own _ => true
  | .ownd _ => true
  | .me _ _ => true
  | _ => false
structure StOk (W : Wd) (R : Addr) (H0 F H : Hp) (σV : L2.St) (σ : St) : Prop where
  len : σV.length = σ.length
  at_ : ∀ (i : Nat) (s : Slot), σ[i]? = some s → SlotOk W R H0 F H ((σV[i]?).join) s
  apart : ∀ (i j : Nat) (s u : Slot) (a : Addr), σ[i]? = some s → σ[j]? = some u → isOwn s = true → isOwn u = true → σV[i]? = some (some (.ref a)) → σV[j]? = some (some (.ref a)) → i = j
theorem SlotOk.grow {H0 H F' H' : Hp} {o : Option V} {s : Slot} (g : Grow R F H F' H') (h : SlotOk W R H0 F H o s) : SlotOk W R H0 F' H' o s := by
  have fn : ∀ a u, F a = none → H a = some u → F' a = none := fun a u h1 h2 => by
    cases q : F' a with
    | none => rfl
    | some z => rw [g.new a h1 (by rw [q]; simp)] at h2; cases h2
  cases s with
  | un => trivial
  | val d => obtain ⟨v, e, r⟩ := h; exact ⟨v, e, r.mono g.le⟩
  | exc x => exact ⟨h.1, h.2.mono g.le⟩
  | own ds => obtain ⟨a, xs, e, h1, h2, h3, h4, h5, h6⟩ := h; exact ⟨a, xs, e, g.kept.at_ h1 h5 nt_lst, h2, h3.mono g.le, fn _ _ h4 h1, h5, h6⟩
  | ownd ds => obtain ⟨a, xs, e, h1, h2, h3, h4, h5, h6⟩ := h; exact ⟨a, xs, e, g.kept.at_ h1 h5 nt_dK, h2, h3.mono g.le, fn _ _ h4 h1, h5, h6⟩
  | me c ds => obtain ⟨a, dx, fs, e, h1, h2, h3, h4, h5, h6⟩ := h; exact ⟨a, dx, fs, e, g.kept.at_ h1 h5 nt_ins, h2, h3.mono g.le, fn _ _ h4 h1, h5, h6⟩
theorem StOk.grow {H0 H F' H' : Hp} {σV : L2.St} {σ : St} (g : Grow R F H F' H') (h : StOk W R H0 F H σV σ) : StOk W R H0 F' H' σV σ :=
  ⟨h.len, fun i s e => (h.at_ i s e).grow g, h.apart⟩
end
end DI
set_option Elab.async false
set_option linter.all false
set_option maxRecDepth 100000
set_option maxHeartbeats 2000000
/-! Xa: own exceptions over ValueError whose __init__ says super().__init__(text) and stores its parameters: made. -/
namespace DI
open PySem PySem.Spec PyProof.Rows PySem.HandSPX
/-- what the module says of such a class -/
structure SupC (P : Program) (K : PySem.W.Frag) (C fI cda cc : Addr) (fs : List Str) (qual : Str) (pa : Arguments) (bd : List Stmt) (sc : Scope) : Prop where
  ox : L2.OexC K C
  init : PySem.W.findIn K (.ref C) "__init__" = some (some (.ref fI))
  tf : PySem.W.typeIn K (.ref fI) = some (.type "function")
  fn : ∃ oc od osl kV doc pm an ct, K.lookup fI = some ⟨oc, od, .func (PySem.W.ksFn "__init__" qual pa bd sc .none kV doc pm an (.ref cda) ct cc), osl⟩
  code : PySem.W.codeIn K (.ref cda) qual = true
  file : ∃ oc od osl vs file tf, K.lookup cda = some ⟨oc, od, .fields vs, osl⟩ ∧ vs[2]? = some (.str file tf) ∧ ((P.main.file : Str) == file) = true
  cell : ∃ oc od osl, K.lookup cc = some ⟨oc, od, .cell (some (.ref C)), osl⟩
  sup : PySem.W.ks_superIn K C C "__init__" = some (some (.builtin "ValueError.__init__"))
  subV : PySem.W.subIn K (.ref C) (.type "ValueError") = some true
  self : PySem.W.mroIn K C (.ref C) = some true
  nosup : PySem.W.nsIn K mainGlobals "super" = some none
  noany : PySem.W.nsIn K cStatics "thirdparty.any" = some none
  top : (P.main.scope.names.lookup ("super" : Str)).isSome = false
  noat : ∀ f ∈ fs, PySem.W.findIn K (.ref C) f = some none
/-- what its text says -/
structure SupT (fs : List Str) (pa : Arguments) (sc : Scope) : Prop where
  who : fs = [("value" : Str)] ∨ fs = [("name" : Str)] ∨ fs = [("place" : Str)] ∨ fs = [("line" : Str)] ∨ fs = [("part" : Str), ("place" : Str)]
  kind : sc.kind = .function
  co : sc.isCoroutine = false
  gen : sc.isGenerator = false
  nc : ∀ y ∈ sc.names, y.2 ≠ .cell
  ks : sc.names.lookup ("super" : Str) = some .globalImplicit
  kc : sc.names.lookup ("__class__" : Str) = some .free
  lo : ∀ f ∈ ("self" : Str) :: fs, sc.names.lookup f = some .local
  pa : ∃ l : List Arg, pa = ⟨[], l, none, [], [], none, []⟩ ∧ l.map (·.arg) = ("self" : Str) :: fs
theorem ba' {a b : Bool} (h : (a && b) = true) : a = true ∧ b = true := Bool.and_eq_true_iff.mp h
def assB : List Str → List Stmt → Bool
  | [], [] => true
  | f :: fs, .Assign [.Attribute (.Name s _) g _] (.Name y _) _ :: r => decide (s = ("self" : Str)) && (decide (f = g) && (decide (f = y) && assB fs r))
  | _, _ => false
theorem assB_nil : ∀ {bd : List Stmt}, assB [] bd = true → bd = []
  | [], _ => rfl
  | st :: r, h => by cases st <;> cases h
theorem assB_cons {f : Str} {fs : List Str} {bd : List Stmt} (h : assB (f :: fs) bd = true) : ∃ p1 p2 p3 p4 r, bd = .Assign [.Attribute (.Name "self" p1) f p2] (.Name f p3) p4 :: r ∧ assB fs r = true := by
  cases bd with
  | nil => exact (Bool.false_ne_true h).elim
  | cons st r =>
    cases st <;> try (exact (Bool.false_ne_true h).elim)
    rename_i ts v p4
    cases ts with
    | nil => exact (Bool.false_ne_true h).elim
    | cons t ts =>
    cases t <;> try (exact (Bool.false_ne_true h).elim)
    rename_i o g p2
    cases ts with
    | cons _ _ => cases o <;> exact (Bool.false_ne_true h).elim
    | nil =>
    cases o <;> try (exact (Bool.false_ne_true h).elim)
    rename_i s p1
    cases v <;> try (exact (Bool.false_ne_true h).elim)
    rename_i y p3
    have h : (decide (s = ("self" : Str)) && (decide (f = g) && (decide (f = y) && assB fs r))) = true := h
    obtain ⟨b1, h2⟩ := ba' h
    obtain ⟨b2, h3⟩ := ba' h2
    obtain ⟨b3, h4⟩ := ba' h3
    have b1 := of_decide_eq_true b1
    have b2 := of_decide_eq_true b2
    have b3 := of_decide_eq_true b3
    subst b1 b2 b3
    exact ⟨p1, p2, p3, p4, r, rfl, h4⟩
def supB (fs : List Str) : List Stmt → Bool
  | .Expr (.Call (.Attribute (.Call (.Name s _) [] [] _) i p) [.Constant (.str _) _ _] [] q) _ :: r => decide (s = ("super" : Str)) && (decide (i = ("__init__" : Str)) && ((p.endLine == q.line) && assB fs r))
  | _ => false
section
variable {prog : Program} {w : World} {A : Around} {E : Value → Shared → Prop} {h : Heap} {g : Array GenState} {d : Drawn} {t : Nat} {os : OsState}
/-- the built-in __init__, bound, called -/
theorem mw_call {u x C t0 N : Addr} {nm q : Str} {bs bm : List Value} {hdct : Bool} {sn : List Str} {sub : List Value} {ab : Bool} {col : Option Bool} {dd : Option Addr} {k0 k1 k2 k3 k5 : Option Value} {rest : List Value} {Q : Value → Shared → Prop}
    (hC : h.get? C = some (excClassObj nm q C N bs bm hdct sn sub ab col dd k0 k1 k2 k3 k5 "ValueError.__new__")) (he : h.get? x = some (excO C t0)) (hu : h.get? u = some (PySem.W.kxs_mw "ValueError.__init__" x)) (hz : rest.length ≤ sizeLine)
    (hq : ∀ h', (∀ b o, b ≠ x → h.get? b = some o → h'.get? b = some o) → h'.get? x = some (excO C h.objs.size) → Q .none ⟨h', g, d, t, os⟩) :
    wpAny (model prog w) A (call (.ref u) rest) Q E ⟨h, g, d, t, os⟩ := by
  refine wpAny_call (codeAny_of_tree ?_)
  show wpAny _ A.in1 (callAny (.ref u) ⟨rest, []⟩) _ _ _
  simp only [callAny]
  refine wpAny_bind (wpAny_load hu ?_)
  simp only [PySem.W.kxs_mw, show (Value.type "method-wrapper" == Value.type "method" || Value.type "method-wrapper" == Value.type "builtin_function_or_method" || Value.type "method-wrapper" == Value.type "method-wrapper") = true by decide, if_true]
  refine PySem.W.KFB.if_so (by decide) ?_
  refine wpAny_bind (PySem.W.check_bound_init F.excBase_ValueError.toExcCallFacts hC he rfl ?_)
  refine wpAny_bind (wpAny_pure (wpAny_pure ?_))
  refine ⟨plainId_quiet F.excBase_ValueError.init.plain _, codeAny_builtin F.excBase_ValueError.initEntry ?_⟩
  exact PySem.W.exc_init_tree (cls := .ref C) (t0 := t0) (dv := none) (c2 := .none) (c3 := .none) (b4 := .bool false) he hz fun h' k e1 _ => hq h' k e1
def lkV (l : List (Str × Value)) : Str → Option Value := fun y => l.lookup y
theorem lookup_mL (f : Str) (v : Value) (l : List (Str × Value)) : (fun y => if y = f then some v else lkV l y) = lkV ((f, v) :: l) := by
  funext y
  unfold lkV
  by_cases h : y = f
  · subst h; simp [List.lookup]
  · have e : (y == f) = false := by simpa using h
    rw [if_neg h]; simp [List.lookup, e]
theorem within_mL (l : List (Str × Value)) : Within (lkV l) (l.map (·.1)) := by
  intro y hy
  unfold lkV at hy
  induction l with
  | nil => exact absurd rfl hy
  | cons p l ih =>
    obtain ⟨f, v⟩ := p
    by_cases e : y = f
    · rw [e]; exact List.mem_cons_self ..
    · have e2 : (y == f) = false := by simpa using e
      exact List.mem_cons_of_mem _ (ih (by simpa [List.lookup, e2] using hy))
/-- an exception object with its dict -/
abbrev excD (C t dx : Addr) : Obj := { cls := .ref C, dict := some dx, data := .fields #[.ref t, .none, .none, .none, .bool false, .none] }
/-- self.f = f, the first one -/
theorem ass_new {K : PySem.W.Frag} {C x t0 : Addr} {f : Str} {env : Env} {m : Str → Option Value} {u : Value} {p1 p2 p3 p4 : Pos} {Q : Flow → Shared → Prop} (O : L2.OexC K C) (X : K.In h) (hno : PySem.W.findIn K (.ref C) f = some none)
    (hk : env.scope.kind = .function) (hl1 : env.kindOf "self" = some .local) (hl2 : env.kindOf f = some .local) (hd : (f == ("__debug__" : Str)) = false) (hn : h.Ns env.locals m) (m1 : m "self" = some (.ref x)) (m2 : m f = some u) (hx : h.get? x = some (excO C t0))
    (hq : ∀ h' t' dx, (∀ b o, b ≠ x → h.get? b = some o → h'.get? b = some o) → h.get? dx = none → dx ≠ x → h'.get? x = some (excD C t0 dx) → h'.Ns1 dx (lkV [(f, u)]) → Q .next ⟨h', g, d, t', os⟩) :
    wpAny (model prog w) A (exec (.Assign [.Attribute (.Name "self" p1) f p2] (.Name f p3) p4) env) Q E ⟨h, g, d, t, os⟩ := by
  obtain ⟨nm, q, N, bs, bm, sn, sub, ab, col, dd, k0, k1, k2, k3, k5, hC, hbm⟩ := O.cls
  have hcl : PySem.W.clsIn K C = some { name := nm, bases := bs, mro := .ref C :: bm, ns := N, qualname := q, hasDict := true, slotNames := sn, subclasses := sub, abstract := ab, collection := col, hasDel := false } := by unfold PySem.W.clsIn; rw [hC] <;> rfl
  refine plainObj_wpAny_Assign_Attribute (ESX.ldL hn m2 (ESX.ldL hn m1 ?_ hk hl1) hk hl2 hd)
  refine PySem.W.set_plain X (ox := excO C t0) (od := none) ⟨hx, rfl, rfl, trivial⟩ O.sa ?_
  refine exc_osa X hx hcl (show refsVE (.ref C :: bm) = true from hbm) rfl hno (fun h' tk' dx k dn dne hx' hn' => ?_)
  have hn' : h'.Ns1 dx (fun y => if y = f then some u else lkV [] y) := hn'
  rw [lookup_mL f u []] at hn'
  have dn0 : h.get? dx = none := by
    cases e : h.get? dx with
    | none => rfl
    | some o => exact absurd (Heap.lt_size e) (Nat.not_lt.mpr dn)
  exact hq h' tk' dx k dn0 dne hx' hn'
/-- self.f = f, a further one -/
theorem ass_old {K : PySem.W.Frag} {C x t0 dx : Addr} {f : Str} {env : Env} {m : Str → Option Value} {u : Value} {l : List (Str × Value)} {p1 p2 p3 p4 : Pos} {Q : Flow → Shared → Prop} (O : L2.OexC K C) (X : K.In h) (hno : PySem.W.findIn K (.ref C) f = some none)
    (hk : env.scope.kind = .function) (hl1 : env.kindOf "self" = some .local) (hl2 : env.kindOf f = some .local) (hd : (f == ("__debug__" : Str)) = false) (hn : h.Ns env.locals m) (m1 : m "self" = some (.ref x)) (m2 : m f = some u) (hx : h.get? x = some (excD C t0 dx)) (hdn : h.Ns1 dx (lkV l)) (hz : l.length ≤ 900)
    (hq : ∀ h' t', (∀ b o, b ≠ dx → h.get? b = some o → h'.get? b = some o) → h'.Ns1 dx (lkV ((f, u) :: l)) → Q .next ⟨h', g, d, t', os⟩) :
    wpAny (model prog w) A (exec (.Assign [.Attribute (.Name "self" p1) f p2] (.Name f p3) p4) env) Q E ⟨h, g, d, t, os⟩ := by
  obtain ⟨nm, q, N, bs, bm, sn, sub, ab, col, dd, k0, k1, k2, k3, k5, hC, hbm⟩ := O.cls
  have hcl : PySem.W.clsIn K C = some { name := nm, bases := bs, mro := .ref C :: bm, ns := N, qualname := q, hasDict := true, slotNames := sn, subclasses := sub, abstract := ab, collection := col, hasDel := false } := by unfold PySem.W.clsIn; rw [hC] <;> rfl
  obtain ⟨oD, _, _, hoD, _, _⟩ := hdn.count (within_mL l)
  refine plainObj_wpAny_Assign_Attribute (ESX.ldL hn m2 (ESX.ldL hn m1 ?_ hk hl1) hk hl2 hd)
  refine PySem.W.set_plain X (ox := excD C t0 dx) (od := some oD) ⟨hx, rfl, rfl, hoD⟩ O.sa ?_
  refine PySem.OEX.osa_old X hx hdn (within_mL l) (by rw [List.length_map]; omega) hcl (show refsVE (.ref C :: bm) = true from hbm) rfl hno (fun h' tk' k hn' => ?_)
  rw [lookup_mL f u l] at hn'
  exact hq h' tk' k hn'
theorem sup_bind {fs : List Str} {pa : Arguments} {sc : Scope} {qual : Str} {bd : List Stmt} {kV doc pm ct cdv : Value} {an : Option Addr} {cc x : Addr} {us : List Value} (T : SupT fs pa sc) (hl : us.length = fs.length) :
    bindArgs (PySem.W.ksFn "__init__" qual pa bd sc .none kV doc pm an cdv ct cc) ⟨.ref x :: us, []⟩ = pure ((("self" : Str), Value.ref x) :: fs.zip us) := by
  obtain ⟨l, rfl, hla⟩ := T.pa
  have one : ∀ {f : Str}, fs = [f] → ∃ u a1 p1 a2 p2, us = [u] ∧ l = [⟨("self" : Str), a1, p1⟩, ⟨f, a2, p2⟩] := fun {f} e => by
    subst e
    match us, hl, l, hla with
    | [u], _, [⟨s, a1, p1⟩, ⟨y, a2, p2⟩], hla =>
      simp only [List.map_cons, List.map_nil, List.cons.injEq, and_true] at hla
      obtain ⟨rfl, rfl⟩ := hla
      exact ⟨u, a1, p1, a2, p2, rfl, rfl⟩
  rcases T.who with e | e | e | e | e
  · obtain ⟨u, a1, p1, a2, p2, rfl, rfl⟩ := one e; subst e; kernel_rfl
  · obtain ⟨u, a1, p1, a2, p2, rfl, rfl⟩ := one e; subst e; kernel_rfl
  · obtain ⟨u, a1, p1, a2, p2, rfl, rfl⟩ := one e; subst e; kernel_rfl
  · obtain ⟨u, a1, p1, a2, p2, rfl, rfl⟩ := one e; subst e; kernel_rfl
  · subst e
    match us, hl, l, hla with
    | [u, v], _, [⟨s, a1, p1⟩, ⟨y, a2, p2⟩, ⟨z, a3, p3⟩], hla =>
      simp only [List.map_cons, List.map_nil, List.cons.injEq, and_true] at hla
      obtain ⟨rfl, rfl, rfl⟩ := hla
      kernel_rfl
end
end DI
set_option Elab.async false
set_option linter.all false
set_option maxRecDepth 100000
/-! Ha: constants of the module, asked. -/
namespace DI
open PySem
mutual
def repB (K : PySem.W.Frag) : Nat → Value → D → Bool
  | _, .none, .non => true
  | _, .bool a, .bl b => decide (a = b)
  | _, .int i _, .int j => decide (i = j)
  | _, .str x _, .str y => decide (x = y) && okB y
  | n + 1, .ref a, .tup ds => match K.lookup a with
    | some ⟨.type "tuple", _, .seq its _, _⟩ => decide (its.size ≤ sizeLine) && repsB K n its.toList ds
    | _ => false
  | _, _, _ => false
def repsB (K : PySem.W.Frag) : Nat → List Value → List D → Bool
  | _, [], [] => true
  | n, v :: vs, d :: ds => repB K n v d && repsB K n vs ds
  | _, _, _ => false
end
/-- all constants of a list stand in the module -/
def consB (K : PySem.W.Frag) (l : List (Str × D)) : Bool := l.all fun p => match PySem.W.nsIn K mainGlobals p.1 with
  | some (some u) => repB K 9 u p.2
  | _ => false
end DI
set_option Elab.async false
set_option linter.all false
set_option maxRecDepth 100000
/-! Xk: what the module says of an exception's class, asked. -/
namespace DI
open PySem PySem.Spec PyProof.Rows PySem.HandSPX
def oexB (K : PySem.W.Frag) (C : Addr) : Bool := match K.lookup C with
  | some ⟨.type "type", _, .cls cd, sl⟩ => (match cd.mro, sl.toList with
    | .ref C' :: bm, [_, _, _, _, some (.builtin n), _] => decide (C' = C) && (decide (n = "ValueError.__new__") && (!cd.hasDel && (cd.hasDict && refsVE bm)))
    | _, _ => false)
  | _ => false
def supTB (fs : List Str) (pa : Arguments) (sc : Scope) : Bool :=
  decide (fs = [("value" : Str)] ∨ fs = [("name" : Str)] ∨ fs = [("place" : Str)] ∨ fs = [("line" : Str)] ∨ fs = [("part" : Str), ("place" : Str)]) && ((match sc.kind with | .function => true | _ => false) && (!sc.isCoroutine && (!sc.isGenerator && (sc.names.all (fun y => !decide (y.2 = .cell)) &&
    (decide (sc.names.lookup ("super" : Str) = some .globalImplicit) && (decide (sc.names.lookup ("__class__" : Str) = some .free) && ((("self" : Str) :: fs).all (fun f => decide (sc.names.lookup f = some .local)) &&
      (match pa with | ⟨[], l, none, [], [], none, []⟩ => decide (l.map (·.arg) = ("self" : Str) :: fs) | _ => false))))))))
/-- the function object of such an __init__ -/
def supFB (P : Program) (K : PySem.W.Frag) (C : Addr) (fs : List Str) (fd : FuncData) : Bool := match fd.code, fd.closure, fd.body with
  | .ref cda, [(x, cc)], .stmts bd => decide (x = ("__class__" : Str)) && (decide (fd.name = ("__init__" : Str)) && (decide (fd.globals = mainGlobals) && (decide (fd.builtins = builtinsNs) && (decide (fd.defaults = .none) && (PySem.W.codeIn K (.ref cda) fd.qualname && (supTB fs fd.params fd.scope && (supB fs bd &&
      ((match K.lookup cda with | some ⟨_, _, .fields vs, _⟩ => (match (vs[2]? : Option Value) with | some (.str file _) => P.main.file == file | _ => false) | _ => false) && (match K.lookup cc with | some ⟨_, _, .cell (some (.ref D)), _⟩ => decide (D = C) | _ => false)))))))))
  | _, _, _ => false
def supIn (P : Program) (K : PySem.W.Frag) (C : Addr) (fs : List Str) : Bool :=
  oexB K C && (decide (PySem.W.findIn K (.ref C) "__setattr__" = some (some (.builtin "object.__setattr__"))) && (decide (PySem.W.subIn K (.ref C) (.type "BaseException") = some true) && (decide (PySem.W.typeIn K (.ref C) = some (.type "type")) && (PySem.W.keepIn K (.ref C) &&
    (decide (PySem.W.ks_superIn K C C "__init__" = some (some (.builtin "ValueError.__init__"))) && (decide (PySem.W.subIn K (.ref C) (.type "ValueError") = some true) && (decide (PySem.W.mroIn K C (.ref C) = some true) && (decide (PySem.W.nsIn K mainGlobals "super" = some none) &&
      (decide (PySem.W.nsIn K cStatics "thirdparty.any" = some none) && (!(P.main.scope.names.lookup ("super" : Str)).isSome && (fs.all (fun f => decide (PySem.W.findIn K (.ref C) f = some none)) &&
        (match PySem.W.findIn K (.ref C) "__init__" with
          | some (some (.ref fI)) => decide (PySem.W.typeIn K (.ref fI) = some (.type "function")) && (match K.lookup fI with | some ⟨_, _, .func fd, _⟩ => supFB P K C fs fd | _ => false)
          | _ => false))))))))))))
/-- what is asked of the class of an exception in hand -/
def hexB (K : PySem.W.Frag) (C : Addr) (fs : List Str) : Bool :=
  decide (PySem.W.findIn K (.ref C) "__getattribute__" = some (some (.builtin "BaseException.__getattribute__"))) && (decide (PySem.W.findIn K (.ref C) "__getattr__" = some none) && (decide (PySem.W.subIn K (.ref C) (.type "BaseException") = some true) && (PySem.W.hasDictIn K C &&
    (decide (PySem.W.findIn K (.ref C) "__class__" = some (some (.builtin "object.__class__"))) && (decide (PySem.W.specialIn K (.builtin "object.__class__") "__get__" = some (some (.builtin "getset_descriptor.__get__"))) && (decide (PySem.W.takesIn K (.builtin "object.__class__") = some true) &&
      (decide (PySem.W.mroIn K C (.type "object") = some true) && fs.all (fun f => decide (PySem.W.findIn K (.ref C) f = some none)))))))))
theorem bk {a b : Bool} (h : (a && b) = true) : a = true ∧ b = true := Bool.and_eq_true_iff.mp h
theorem oexB_ok {K : PySem.W.Frag} {C : Addr} (h : oexB K C = true) : ∃ nm q N bs bm sn sub ab col dd k0 k1 k2 k3 k5, K.lookup C = some (excClassObj nm q C N bs bm true sn sub ab col dd k0 k1 k2 k3 k5 "ValueError.__new__") ∧ refsVE bm = true := by
  unfold oexB at h
  split at h
  · rename_i dd cd sl ho
    split at h
    · rename_i C' bm k0 k1 k2 k3 n k5 hm hs
      obtain ⟨h1, h⟩ := bk h
      obtain ⟨h2, h⟩ := bk h
      obtain ⟨h3, h⟩ := bk h
      obtain ⟨h4, h5⟩ := bk h
      have p1 := of_decide_eq_true h1
      have p2 := of_decide_eq_true h2
      have p3 : cd.hasDel = false := by simpa using h3
      clear h1 h2 h3
      subst p1 p2
      obtain ⟨nm, bs, mro, ns, qn, hd, sn, sub, ab, col, del⟩ := cd
      dsimp only at hm p3 h4
      subst hm p3 h4
      have hsl : sl = #[k0, k1, k2, k3, some (.builtin "ValueError.__new__"), k5] := by
        obtain ⟨l⟩ := sl
        simp only at hs
        rw [hs]
      subst hsl
      exact ⟨nm, qn, ns, bs, bm, sn, sub, ab, col, dd, k0, k1, k2, k3, k5, ho, h5⟩
    · cases h
  · cases h
theorem supTB_ok {fs : List Str} {pa : Arguments} {sc : Scope} (h : supTB fs pa sc = true) : SupT fs pa sc := by
  unfold supTB at h
  obtain ⟨h1, h⟩ := bk h
  obtain ⟨h2, h⟩ := bk h
  obtain ⟨h3, h⟩ := bk h
  obtain ⟨h4, h⟩ := bk h
  obtain ⟨h5, h⟩ := bk h
  obtain ⟨h6, h⟩ := bk h
  obtain ⟨h7, h⟩ := bk h
  obtain ⟨h8, h9⟩ := bk h
  refine ⟨of_decide_eq_true h1, ?_, by simpa using h3, by simpa using h4, fun y hy => ?_, of_decide_eq_true h6, of_decide_eq_true h7, fun f hf => of_decide_eq_true (List.all_eq_true.mp h8 f hf), ?_⟩
  · cases e : sc.kind <;> first | rfl | (rw [e] at h2; cases h2)
  · have := List.all_eq_true.mp h5 y hy
    simpa using this
  · split at h9
    · exact ⟨_, rfl, of_decide_eq_true h9⟩
    · cases h9
theorem supIn_ok {P : Program} {K : PySem.W.Frag} {C : Addr} {fs : List Str} (h : supIn P K C fs = true) : ∃ fI cda cc qual pa bd sc, SupC P K C fI cda cc fs qual pa bd sc ∧ SupT fs pa sc ∧ supB fs bd = true := by
  unfold supIn at h
  obtain ⟨h1, h⟩ := bk h
  obtain ⟨h2, h⟩ := bk h
  obtain ⟨h3, h⟩ := bk h
  obtain ⟨h4, h⟩ := bk h
  obtain ⟨h5, h⟩ := bk h
  obtain ⟨h6, h⟩ := bk h
  obtain ⟨h7, h⟩ := bk h
  obtain ⟨h8, h⟩ := bk h
  obtain ⟨h9, h⟩ := bk h
  obtain ⟨h10, h⟩ := bk h
  obtain ⟨h11, h⟩ := bk h
  obtain ⟨h12, h⟩ := bk h
  split at h
  rotate_left
  · cases h
  rename_i fI hI
  obtain ⟨h13, h14⟩ := bk h
  split at h14
  rotate_left
  · cases h14
  rename_i oc od fd osl hfd
  unfold supFB at h14
  split at h14
  rotate_left
  · cases h14
  rename_i cda x cc bd e1 e2 e3
  obtain ⟨g1, h14⟩ := bk h14
  obtain ⟨g2, h14⟩ := bk h14
  obtain ⟨g3, h14⟩ := bk h14
  obtain ⟨g4, h14⟩ := bk h14
  obtain ⟨g5, h14⟩ := bk h14
  obtain ⟨g6, h14⟩ := bk h14
  obtain ⟨g7, h14⟩ := bk h14
  obtain ⟨g8, h14⟩ := bk h14
  obtain ⟨g9, g10⟩ := bk h14
  have p1 := of_decide_eq_true g1
  have p2 := of_decide_eq_true g2
  have p3 := of_decide_eq_true g3
  have p4 := of_decide_eq_true g4
  have p5 := of_decide_eq_true g5
  clear g1 g2 g3 g4 g5
  subst p1
  obtain ⟨nm, qn, pa, fb, sc, gl, cl, df, kd, doc, pm, an, cd, ct, bt⟩ := fd
  dsimp only at e1 e2 e3 p2 p3 p4 p5 g6 g7
  subst e1 e2 e3 p2 p3 p4 p5
  refine ⟨fI, cda, cc, qn, pa, bd, sc, ⟨⟨oexB_ok h1, of_decide_eq_true h2, of_decide_eq_true h3, of_decide_eq_true h4, h5⟩, hI, of_decide_eq_true h13, ⟨oc, od, osl, kd, doc, pm, an, ct, hfd⟩, g6, ?_, ?_, of_decide_eq_true h6, of_decide_eq_true h7, of_decide_eq_true h8, of_decide_eq_true h9, of_decide_eq_true h10, by simpa using h11, fun f hf => of_decide_eq_true (List.all_eq_true.mp h12 f hf)⟩, supTB_ok g7, g8⟩
  · split at g9
    · rename_i a b vs s hv
      split at g9
      · rename_i file t hf
        exact ⟨a, b, s, vs, file, t, hv, hf, g9⟩
      · cases g9
    · cases g9
  · split at g10
    · rename_i a b D s hv
      have := of_decide_eq_true g10
      subst this
      exact ⟨a, b, s, hv⟩
    · cases g10
theorem hexB_ok {K : PySem.W.Frag} {C : Addr} {fs : List Str} (h : hexB K C fs = true) : L2.ExcC K C ∧ L2.XfC K C ∧ ∀ f ∈ fs, PySem.W.findIn K (.ref C) f = some none := by
  unfold hexB at h
  obtain ⟨h1, h⟩ := bk h
  obtain ⟨h2, h⟩ := bk h
  obtain ⟨h3, h⟩ := bk h
  obtain ⟨h4, h⟩ := bk h
  obtain ⟨h5, h⟩ := bk h
  obtain ⟨h6, h⟩ := bk h
  obtain ⟨h7, h⟩ := bk h
  obtain ⟨h8, h9⟩ := bk h
  exact ⟨⟨of_decide_eq_true h1, of_decide_eq_true h2, of_decide_eq_true h3, h4, of_decide_eq_true h5, of_decide_eq_true h6, of_decide_eq_true h7, of_decide_eq_true h8⟩, ⟨of_decide_eq_true h1, of_decide_eq_true h2, of_decide_eq_true h3, h4⟩, fun f hf => of_decide_eq_true (List.all_eq_true.mp h9 f hf)⟩
/-! A Hook whose table holds all objects of the heap (statics too). -/
def frS (n : Nat) (g : Addr → Option Obj) : PySem.W.Frag := He.frT g (List.range n)
def obsS (n : Nat) (fa : List He.Fa) (fn : List He.DefD) (tf : List He.Defn) (ex : PySem.W.Frag → Bool) (g : Addr → Option Obj) : He.AlX := (He.obsT fa fn [] (frS n g), ex (frS n g) && He.tabsB g tf (frS n g))
theorem tabsB_at {g : Addr → Option Obj} {tf : List He.Defn} {K : PySem.W.Frag} (h : He.tabsB g tf K = true) {p : He.Defn} (hp : p ∈ tf) : PySem.W.codeHdIn K (He.cT K p).1 (He.cT K p).2 = true ∧ ∃ o, g (He.cT K p).2 = some o ∧ He.emptyTab o = true := by
  obtain ⟨h3, h4⟩ := bk (List.all_eq_true.mp h p hp)
  refine ⟨h3, ?_⟩
  split at h4
  · rename_i o ho
    exact ⟨o, ho, h4⟩
  · cases h4
theorem saysS {n : Nat} {fa : List He.Fa} {fn : List He.DefD} {tf : List He.Defn} {ex : PySem.W.Frag → Bool} {w : World} {h : Heap} (e : obsS n fa fn tf ex h.get? = He.valX fn [] w) : He.SaysX fa fn [] tf ex w h (frS n h.get?) := by
  have e1 : He.obsT fa fn [] (frS n h.get?) = He.valT fn [] w := congrArg (fun z : He.AlX => z.1) e
  have e2 : (ex (frS n h.get?) && He.tabsB h.get? tf (frS n h.get?)) = true := congrArg (fun z : He.AlX => z.2) e
  obtain ⟨h1, h2⟩ := bk e2
  refine ⟨e1, h1, fun p hp => (tabsB_at h2 hp).1, fun p hp => ?_, fun p hp => ?_⟩
  · obtain ⟨_, o, q, z⟩ := tabsB_at h2 hp
    exact He.frT_none q z
  · obtain ⟨_, o, q, z⟩ := tabsB_at h2 hp
    rw [q, He.emptyTab_eq z]
def hookS (n : Nat) (fa : List He.Fa) (fn : List He.DefD) (tf : List He.Defn) (ex : PySem.W.Frag → Bool) : PySem.W.Hook where
  α := He.AlX
  obs := fun s => obsS n fa fn tf ex s.heap.get?
  val := fun w => He.valX fn [] w
  says := fun w h => ∃ K : PySem.W.Frag, K.In h ∧ He.SaysX fa fn [] tf ex w h K
  of := fun _ _ e => ⟨_, He.frT_in, saysS e⟩
  keeps := (He.hookX n fa fn [] tf ex).keeps
theorem obsS_eq {n : Nat} {fa : List He.Fa} {fn : List He.DefD} {tf : List He.Defn} {ex : PySem.W.Frag → Bool} {g : Addr → Option Obj} {s : Shared} (h : ∀ a, g a = s.heap.get? a) : obsS n fa fn tf ex g = (hookS n fa fn tf ex).obs s := by
  have e : g = s.heap.get? := funext h
  rw [e] <;> rfl
/-- a class whose instances isinstance knows -/
def isoB (K : PySem.W.Frag) (C : Addr) : Bool :=
  decide (PySem.W.findIn K (.ref C) "__class__" = some (some (.builtin "object.__class__"))) && (decide (PySem.W.specialIn K (.builtin "object.__class__") "__get__" = some (some (.builtin "getset_descriptor.__get__"))) && (decide (PySem.W.takesIn K (.builtin "object.__class__") = some true) &&
      decide (PySem.W.mroIn K C (.type "object") = some true)))
end DI
set_option Elab.async false
set_option linter.all false
set_option maxRecDepth 100000
set_option maxHeartbeats 0
namespace LW
open PySem DI
def nsT : List (Nat × Str) := [(2, ("BadNumber" : Str))]
def c_MOST_HEIGHT : D := (.int 100)
def c_MOST_WIDTH : D := (.int 200)
def consts : List (Str × D) := [(("MOST_HEIGHT" : Str), c_MOST_HEIGHT), (("MOST_WIDTH" : Str), c_MOST_WIDTH)]
def b__law_taken : S := (.cons (.ifs (.cmp .gt (.rowi (.var 0) 3) (.int 0))
(.cons (.set (.nm 3) (.op .mod (.bi .int (.cons (.rowi (.var 0) 3) .nil)) (.var 1))) (.cons (.rowset 0 3 (.op .fdiv (.rowi (.var 0) 3) (.var 1))) (.cons (.ret (.var 3)) .nil)))
.nil) (.cons (.rowset 0 1 (.op .add (.rowi (.var 0) 1) (.int 1))) (.cons (.ifs (.cmp .gt (.rowi (.var 0) 1) (.rowlen (.var 0)))
(.cons (.rowset 0 2 (.op .mod (.bi .int (.cons (.op .add (.op .mul (.rowi (.var 0) 2) (.int 48271)) (.int 11)) .nil)) (.int 2147483647))) (.cons (.ret (.op .mod (.bi .int (.cons (.op .fdiv (.rowi (.var 0) 2) (.int 7)) .nil)) (.var 1))) .nil))
.nil) (.cons (.set (.nm 2) (.rowix (.var 0) (.op .sub (.rowi (.var 0) 1) (.int 1)))) (.cons (.rowset 0 2 (.op .mod (.bi .int (.cons (.op .add (.op .add (.op .mul (.rowi (.var 0) 2) (.int 48271)) (.var 2)) (.int 11)) .nil)) (.int 2147483647))) (.cons (.ifs (.cmp .ge (.var 2) (.op .pow (.int 10) (.int 18)))
(.cons (.rowset 0 3 (.op .fdiv (.var 2) (.var 1))) (.cons (.ret (.op .mod (.bi .int (.cons (.var 2) .nil)) (.var 1))) .nil))
.nil) (.cons (.ret (.op .mod (.bi .int (.cons (.op .add (.op .mul (.op .mod (.bi .int (.cons (.var 2) .nil)) (.int 1000003)) (.int 31)) (.op .fdiv (.rowi (.var 0) 2) (.int 11))) .nil)) (.var 1))) .nil)))))))
def f__law_taken : Fn := runF 4 2 b__law_taken
def b__law_pick : S := (.cons (.ret (.ix (.var 1) (.call "_law_taken" f__law_taken (.cons (.var 0) (.cons (.bi .len (.cons (.var 1) .nil)) .nil))))) .nil)
def f__law_pick : Fn := runF 2 2 b__law_pick
def b__law_lay : S := (.cons (.setT [(3, false), (4, false)] (.cons (.lst .nil) (.cons (.lst .nil) .nil))) (.cons (.fors (.nm 2) (.var 0)
(.cons (.ifs (.and (.cmp .ne (.var 3) (.lst .nil)) (.cmp .le (.bi .len (.cons (.op .add (.op .add (.ix (.var 3) (.neg (.int 1))) (.str " ")) (.var 2)) .nil)) (.var 1)))
(.cons (.set (.nm 3) (.op .add (.sl (.var 3) none (some (.neg (.int 1)))) (.lst (.cons (.op .add (.op .add (.ix (.var 3) (.neg (.int 1))) (.str " ")) (.var 2)) .nil)))) .nil)
(.cons (.set (.nm 3) (.op .add (.var 3) (.lst (.cons (.var 2) .nil)))) .nil)) (.cons (.set (.nm 4) (.op .add (.var 4) (.lst (.cons (.op .sub (.bi .len (.cons (.var 3) .nil)) (.int 1)) .nil)))) .nil))
[2]) (.cons (.ret (.tup (.cons (.var 3) (.cons (.var 4) .nil)))) .nil)))
def f__law_lay : Fn := runF 5 2 b__law_lay
def b__law_alike (f__law_alike : Fn) : S := (.cons (.ifs (.isi (.var 1) [.tuple, .list])
(.cons (.ifs (.or (.not (.isi (.var 0) [.tuple, .list])) (.cmp .ne (.isi (.var 0) [.list]) (.isi (.var 1) [.list])))
(.cons (.ret (.bl false)) .nil)
.nil) (.cons (.ifs (.cmp .ne (.bi .len (.cons (.var 0) .nil)) (.bi .len (.cons (.var 1) .nil)))
(.cons (.ret (.bl false)) .nil)
.nil) (.cons (.ret (.cmp .eq (.comp [("k", 2)] (.nm 2) (.rng1 (.bi .len (.cons (.var 1) .nil))) (some (.not (.call "_law_alike" f__law_alike (.cons (.ix (.var 0) (.var 2)) (.cons (.ix (.var 1) (.var 2)) .nil))))) (.var 2)) (.lst .nil))) .nil)))
.nil) (.cons (.ifs (.or (.cmp .is (.var 1) .non) (.isi (.var 1) [.str]))
(.cons (.ret (.and (.cmp .eq (.var 0) (.var 1)) (.cmp .eq (.isi (.var 0) [.str]) (.isi (.var 1) [.str])))) .nil)
.nil) (.cons (.ret (.and (.isi (.var 0) [.int]) (.and (.cmp .eq (.isi (.var 0) [.bool]) (.isi (.var 1) [.bool])) (.cmp .eq (.var 0) (.var 1))))) .nil)))
def r__law_alike : Nat → Fn
  | 0 => fun _ _ => .stuck
  | n + 1 => runF 3 2 (b__law_alike (r__law_alike n))
def f__law_alike : Fn := r__law_alike 9
def b_is_whole : S := (.cons (.ret (.and (.isi (.var 0) [.int]) (.not (.isi (.var 0) [.bool])))) .nil)
def f_is_whole : Fn := runF 1 1 b_is_whole
def b_is_within : S := (.cons (.ret (.and (.call "is_whole" f_is_whole (.cons (.var 0) .nil)) (.chain .le .le (.var 1) (.var 0) (.var 2)))) .nil)
def f_is_within : Fn := runF 3 3 b_is_within
def b_need_width : S := (.cons (.ifs (.not (.call "is_within" f_is_within (.cons (.var 0) (.cons (.int 1) (.cons (.glob "MOST_WIDTH" c_MOST_WIDTH) .nil)))))
(.cons (.raise "BadNumber" 2 1 (.cons (.var 0) .nil)) .nil)
.nil) .nil)
def f_need_width : Fn := runF 1 1 b_need_width
def b_line_numbers : S := (.cons (.expr (.call "need_width" f_need_width (.cons (.var 1) .nil))) (.cons (.setT [(3, true), (4, false), (5, false)] (.cons (.lst .nil) (.cons (.int 0) (.cons (.int 0) .nil)))) (.cons (.fors (.nm 2) (.var 0)
(.cons (.ifs (.and (.cmp .gt (.var 5) (.int 0)) (.cmp .gt (.op .add (.op .add (.var 5) (.int 1)) (.var 2)) (.var 1)))
(.cons (.setT [(4, false), (5, false)] (.cons (.op .add (.var 4) (.int 1)) (.cons (.int 0) .nil))) .nil)
.nil) (.cons (.set (.nm 5) (.op .add (.op .add (.var 5) (.var 2)) (.ife (.cmp .gt (.var 5) (.int 0)) (.int 1) (.int 0)))) (.cons (.app 3 (.var 4)) .nil)))
[2]) (.cons (.ret (.bi .tuple (.cons (.own 3) .nil))) .nil))))
def f_line_numbers : Fn := runF 6 2 b_line_numbers
def b_lines_of : S := (.cons (.setO 2 (.lst .nil)) (.cons (.fors (.tup (.cons (.nm 3) (.cons (.nm 4) .nil))) (.zip (.var 0) (.call "line_numbers" f_line_numbers (.cons (.comp [("token", 3)] (.nm 3) (.var 0) none (.bi .len (.cons (.var 3) .nil))) (.cons (.var 1) .nil))))
(.cons (.ifs (.cmp .eq (.var 4) (.bi .len (.cons (.own 2) .nil)))
(.cons (.app 2 (.var 3)) .nil)
(.cons (.put 2 (.var 4) (.op .add (.op .add (.ix (.own 2) (.var 4)) (.str " ")) (.var 3))) .nil)) .nil)
[3, 4]) (.cons (.ret (.bi .tuple (.cons (.own 2) .nil))) .nil)))
def f_lines_of : Fn := runF 5 2 b_lines_of
def b_many_lines : S := (.cons (.set (.nm 2) (.call "line_numbers" f_line_numbers (.cons (.var 0) (.cons (.var 1) .nil)))) (.cons (.ret (.ife (.cmp .ne (.var 2) (.tup .nil)) (.op .add (.ix (.var 2) (.neg (.int 1))) (.int 1)) (.int 0))) .nil))
def f_many_lines : Fn := runF 3 2 b_many_lines
def b__law_broken : S := (.cons (.ret (.comp [("k", 2)] (.nm 2) (.rng3 (.int 0) (.bi .len (.cons (.var 0) .nil)) (.var 1)) none (.sl (.var 0) (some (.var 2)) (some (.op .add (.var 2) (.var 1)))))) .nil)
def f__law_broken : Fn := runF 3 2 b__law_broken
def b_entry_lines : S := (.cons (.ret (.bi .max2 (.cons (.int 1) (.cons (.op .fdiv (.op .sub (.op .add (.var 0) (.var 1)) (.int 1)) (.var 1)) .nil)))) .nil)
def f_entry_lines : Fn := runF 2 2 b_entry_lines
def b_entry_starts : S := (.cons (.expr (.call "need_width" f_need_width (.cons (.var 1) .nil))) (.cons (.setT [(4, true), (5, false)] (.cons (.lst .nil) (.cons (.var 2) .nil))) (.cons (.fors (.nm 3) (.var 0)
(.cons (.app 4 (.var 5)) (.cons (.aug 5 (.call "entry_lines" f_entry_lines (.cons (.var 3) (.cons (.var 1) .nil)))) .nil))
[3]) (.cons (.ret (.bi .tuple (.cons (.own 4) .nil))) .nil))))
def f_entry_starts : Fn := runF 6 3 b_entry_starts
def b_broken : S := (.cons (.expr (.call "need_width" f_need_width (.cons (.var 1) .nil))) (.cons (.set (.nm 2) (.comp [("place", 3)] (.nm 3) (.rng1 (.call "entry_lines" f_entry_lines (.cons (.bi .len (.cons (.var 0) .nil)) (.cons (.var 1) .nil)))) none (.op .mul (.var 1) (.var 3)))) (.cons (.ret (.bi .tuple (.cons (.comp [("start", 4)] (.nm 4) (.var 2) none (.sl (.var 0) (some (.var 4)) (some (.op .add (.var 4) (.var 1))))) .nil))) .nil)))
def f_broken : Fn := runF 5 2 b_broken
def b_page_of_line : S := (.cons (.ifs (.not (.call "is_within" f_is_within (.cons (.var 1) (.cons (.int 1) (.cons (.glob "MOST_HEIGHT" c_MOST_HEIGHT) .nil)))))
(.cons (.raise "BadNumber" 2 1 (.cons (.var 1) .nil)) .nil)
.nil) (.cons (.ret (.op .add (.op .fdiv (.var 0) (.var 1)) (.int 1))) .nil))
def f_page_of_line : Fn := runF 2 2 b_page_of_line
def b_on_pages : S := (.cons (.expr (.call "page_of_line" f_page_of_line (.cons (.int 0) (.cons (.var 1) .nil)))) (.cons (.set (.nm 2) (.bi .lrng3 (.cons (.int 0) (.cons (.bi .len (.cons (.var 0) .nil)) (.cons (.var 1) .nil))))) (.cons (.ret (.bi .tuple (.cons (.comp [("start", 3)] (.nm 3) (.var 2) none (.bi .tuple (.cons (.sl (.var 0) (some (.var 3)) (some (.op .add (.var 3) (.var 1)))) .nil))) .nil))) .nil)))
def f_on_pages : Fn := runF 4 2 b_on_pages
def b__law_same : S := (.cons (.ret (.cmp .eq (.rp (.var 0)) (.rp (.var 1)))) .nil)
def f__law_same : Fn := runF 2 2 b__law_same
def b__law_refusal : S := (.cons (.set (.nm 1) (.lst (.cons (.str "BadPart") (.cons (.str "BadNumber") (.cons (.str "Unknown") (.cons (.str "BadMark") (.cons (.str "BadChange") (.cons (.str "BadText") (.cons (.str "BadLine") (.cons (.str "BadClaim") (.cons (.str "NothingDone") .nil))))))))))) (.cons (.set (.nm 2) (.lst (.cons (.isx 0 [2] [] "BadPart") (.cons (.isx 0 [2] [2] "BadNumber") (.cons (.isx 0 [2] [] "Unknown") (.cons (.isx 0 [2] [] "BadMark") (.cons (.isx 0 [2] [] "BadChange") (.cons (.isx 0 [2] [] "BadText") (.cons (.isx 0 [2] [] "BadLine") (.cons (.isx 0 [2] [] "BadClaim") (.cons (.isx 0 [2] [] "NothingDone") .nil))))))))))) (.cons (.ifs (.or (.cmp .ne (.mt .count (.var 2) (.cons (.bl true) .nil)) (.int 1)) (.not (.isx 0 [2] [2] "ValueError")))
(.cons (.ret (.tup (.cons (.str "other") .nil))) .nil)
.nil) (.cons (.set (.nm 3) (.ix (.var 1) (.mt .index (.var 2) (.cons (.bl true) .nil)))) (.cons (.ifs (.cmp .eq (.var 3) (.str "BadPart"))
(.cons (.ret (.tup (.cons (.var 3) (.cons (.xf 0 [] "part") (.cons (.xf 0 [] "place") .nil))))) .nil)
.nil) (.cons (.ifs (.cmp .eq (.var 3) (.str "BadNumber"))
(.cons (.ret (.tup (.cons (.var 3) (.cons (.xf 0 [(2, 0)] "value") .nil)))) .nil)
.nil) (.cons (.ifs (.cmp .eq (.var 3) (.str "Unknown"))
(.cons (.ret (.tup (.cons (.var 3) (.cons (.xf 0 [] "name") .nil)))) .nil)
.nil) (.cons (.ifs (.isin false (.var 3) (.tup (.cons (.str "BadText") (.cons (.str "BadLine") .nil))))
(.cons (.ret (.tup (.cons (.var 3) (.cons (.xf 0 [] "line") .nil)))) .nil)
.nil) (.cons (.ifs (.isin false (.var 3) (.tup (.cons (.str "BadClaim") (.cons (.str "NothingDone") .nil))))
(.cons (.ret (.tup (.cons (.var 3) .nil))) .nil)
.nil) (.cons (.ret (.tup (.cons (.var 3) (.cons (.xf 0 [] "place") .nil)))) .nil))))))))))
def t_200 : E := (.call "entry_starts" f_entry_starts (.cons (.lst (.cons (.int 1) .nil)) (.cons (.var 10) (.cons (.int 0) .nil))))
def t_201 : E := (.call "broken" f_broken (.cons (.str "ab") (.cons (.var 10) .nil)))
def t_202 : E := (.call "lines_of" f_lines_of (.cons (.tup (.cons (.str "a") .nil)) (.cons (.var 10) .nil)))
def t_203 : E := (.call "many_lines" f_many_lines (.cons (.lst .nil) (.cons (.var 10) .nil)))
def t_204 : E := (.call "line_numbers" f_line_numbers (.cons (.lst (.cons (.int 1) .nil)) (.cons (.var 10) .nil)))
def t_205 : E := (.call "on_pages" f_on_pages (.cons (.tup .nil) (.cons (.var 11) .nil)))
def t_206 : E := (.call "page_of_line" f_page_of_line (.cons (.int 0) (.cons (.var 11) .nil)))
def b_law : S := (.cons (.fors (.nm 2) (.rng1 (.int 5))
(.cons (.set (.nm 5) (.bi .tuple (.cons (.comp [("k", 18)] (.nm 18) (.rng1 (.call "_law_taken" f__law_taken (.cons (.var 1) (.cons (.int 14) .nil)))) none (.call "_law_pick" f__law_pick (.cons (.var 1) (.cons (.lst (.cons (.str "a") (.cons (.str "bc") (.cons (.str "a b") (.cons (.str "longer") (.cons (.str "(x; y)") (.cons (.str "@12") (.cons (.str "verylongword") .nil)))))))) .nil)))) .nil))) (.cons (.set (.tup (.cons (.nm 12) (.cons (.nm 13) (.cons (.nm 14) .nil)))) (.tup (.cons (.op .add (.int 1) (.call "_law_taken" f__law_taken (.cons (.var 1) (.cons (.int 20) .nil)))) (.cons (.op .add (.int 1) (.call "_law_taken" f__law_taken (.cons (.var 1) (.cons (.int 6) .nil)))) (.cons (.call "_law_taken" f__law_taken (.cons (.var 1) (.cons (.int 9) .nil))) .nil))))) (.cons (.set (.tup (.cons (.nm 15) (.cons (.nm 16) .nil))) (.call "_law_lay" f__law_lay (.cons (.bi .list (.cons (.var 5) .nil)) (.cons (.var 12) .nil)))) (.cons (.set (.nm 6) (.comp [("token", 17)] (.nm 17) (.var 5) none (.bi .len (.cons (.var 17) .nil)))) (.cons (.ifs (.not (.call "_law_alike" f__law_alike (.cons (.tup (.cons (.call "line_numbers" f_line_numbers (.cons (.var 6) (.cons (.var 12) .nil))) (.cons (.call "many_lines" f_many_lines (.cons (.var 6) (.cons (.var 12) .nil))) (.cons (.call "lines_of" f_lines_of (.cons (.var 5) (.cons (.var 12) .nil))) .nil)))) (.cons (.tup (.cons (.bi .tuple (.cons (.var 16) .nil)) (.cons (.bi .len (.cons (.var 15) .nil)) (.cons (.bi .tuple (.cons (.var 15) .nil)) .nil)))) .nil))))
(.cons (.ret (.bl false)) .nil)
.nil) (.cons (.set (.nm 7) (.comp [("token", 17)] (.nm 17) (.var 5) none (.call "_law_broken" f__law_broken (.cons (.var 17) (.cons (.var 12) .nil))))) (.cons (.set (.nm 8) (.bi .tuple (.cons (.comp [("k", 18)] (.nm 18) (.rng1 (.bi .len (.cons (.var 5) .nil))) none (.op .add (.var 14) (.bi .sum (.cons (.comp [("one", 20)] (.nm 20) (.sl (.var 7) none (some (.var 18))) none (.bi .len (.cons (.var 20) .nil))) .nil)))) .nil))) (.cons (.ifs (.or (.not (.call "_law_alike" f__law_alike (.cons (.call "entry_starts" f_entry_starts (.cons (.var 6) (.cons (.var 12) (.cons (.var 14) .nil)))) (.cons (.var 8) .nil)))) (.not (.call "_law_alike" f__law_alike (.cons (.comp [("token", 17)] (.nm 17) (.var 5) none (.call "broken" f_broken (.cons (.var 17) (.cons (.var 12) .nil)))) (.cons (.comp [("one", 20)] (.nm 20) (.var 7) none (.bi .tuple (.cons (.var 20) .nil))) .nil)))))
(.cons (.ret (.bl false)) .nil)
.nil) (.cons (.set (.nm 9) (.bi .tuple (.cons (.comp [("k", 18)] (.nm 18) (.rng3 (.int 0) (.bi .len (.cons (.var 15) .nil)) (.var 13)) none (.bi .tuple (.cons (.sl (.var 15) (some (.var 18)) (some (.op .add (.var 18) (.var 13)))) .nil))) .nil))) (.cons (.ifs (.not (.call "_law_alike" f__law_alike (.cons (.call "on_pages" f_on_pages (.cons (.bi .tuple (.cons (.var 15) .nil)) (.cons (.var 13) .nil))) (.cons (.var 9) .nil))))
(.cons (.ret (.bl false)) .nil)
.nil) (.cons (.ifs (.cmp .ne (.comp [("k", 18)] (.nm 18) (.rng1 (.bi .len (.cons (.var 15) .nil))) (some (.or (.isin true (.ix (.var 15) (.var 18)) (.ix (.var 9) (.op .sub (.call "page_of_line" f_page_of_line (.cons (.var 18) (.cons (.var 13) .nil))) (.int 1)))) (.cmp .ne (.call "page_of_line" f_page_of_line (.cons (.var 18) (.cons (.var 13) .nil))) (.op .add (.op .fdiv (.var 18) (.var 13)) (.int 1))))) (.var 18)) (.lst .nil))
(.cons (.ret (.bl false)) .nil)
.nil) .nil)))))))))))
[2, 5, 6, 7, 8, 9, 12, 13, 14, 15, 16, 17, 18, 20]) (.cons (.set (.tup (.cons (.nm 10) (.cons (.nm 11) .nil))) (.tup (.cons (.call "_law_pick" f__law_pick (.cons (.var 1) (.cons (.lst (.cons (.int 0) (.cons (.int 201) (.cons (.neg (.int 1)) (.cons .non (.cons (.bl true) (.cons (.str "3") .nil))))))) .nil))) (.cons (.call "_law_pick" f__law_pick (.cons (.var 1) (.cons (.lst (.cons (.int 0) (.cons (.int 101) (.cons (.neg (.int 1)) (.cons .non (.cons (.bl true) (.cons (.str "3") .nil))))))) .nil))) .nil)))) (.cons (.set (.nm 3) (.lst (.cons (.clam 204 t_204) (.cons (.clam 203 t_203) (.cons (.clam 202 t_202) (.cons (.clam 201 t_201) (.cons (.clam 200 t_200) .nil))))))) (.cons (.set (.nm 4) (.lst (.cons (.clam 206 t_206) (.cons (.clam 205 t_205) .nil)))) (.cons (.ret (.and (.gcall "_law_same" f__law_same (.cons (.tells 3 19 [204, 203, 202, 201, 200] [("call", 19)] (.cons (.told "_law_told" nsT t_204) (.cons (.told "_law_told" nsT t_203) (.cons (.told "_law_told" nsT t_202) (.cons (.told "_law_told" nsT t_201) (.cons (.told "_law_told" nsT t_200) .nil)))))) (.cons (.op .mul (.lst (.cons (.tup (.cons (.str "BadNumber") (.cons (.var 10) .nil))) .nil)) (.int 5)) .nil))) (.gcall "_law_same" f__law_same (.cons (.tells 4 19 [206, 205] [("call", 19)] (.cons (.told "_law_told" nsT t_206) (.cons (.told "_law_told" nsT t_205) .nil))) (.cons (.op .mul (.lst (.cons (.tup (.cons (.str "BadNumber") (.cons (.var 11) .nil))) .nil)) (.int 2)) .nil))))) .nil)))))
end LW
set_option Elab.async false
set_option linter.all false
set_option maxRecDepth 100000
set_option maxHeartbeats 0
namespace LW
open PySem PySem.Spec PyProof.Rows L2
abbrev PRG := PySem.Challenge.pw_citedworks_k07_whole_lines_and_pages
abbrev ROW := PySem.Challenge.rw_citedworks_k07_whole_lines_and_pages
def inDefs (C : Str) : List Stmt → List He.DefD
  | [] => []
  | .FunctionDef n a b _ _ _ sc _ _ _ :: r => ⟨(C, some n), n, C ++ "." ++ n, a, b, sc, [], []⟩ :: inDefs C r
  | _ :: r => inDefs C r
def topDefs : List Stmt → List He.DefD
  | [] => []
  | .FunctionDef n a b _ _ _ sc _ _ _ :: .Assign [.Name x p] (.Name y q) r :: l => ⟨(if n = y then x else n, none), n, n, a, b, sc, [], []⟩ :: topDefs (.Assign [.Name x p] (.Name y q) r :: l)
  | .FunctionDef n a b _ _ _ sc _ _ _ :: l => ⟨(n, none), n, n, a, b, sc, [], []⟩ :: topDefs l
  | .ClassDef n bs _ b _ _ _ _ _ _ _ :: l => (if bs.isEmpty then inDefs n b else []) ++ topDefs l
  | _ :: l => topDefs l
def fn : List He.DefD := topDefs PRG.main.body
def fa : List He.Fa := [.glo "_law_taken", .glo "_law_pick", .glo "_law_lay", .glo "_law_alike", .glo "is_whole", .glo "is_within", .glo "need_width", .glo "line_numbers", .glo "lines_of", .glo "many_lines", .glo "_law_broken", .glo "entry_lines", .glo "entry_starts", .glo "broken", .glo "page_of_line", .glo "on_pages", .glo "_law_same", .glo "_law_refusal", .glo "law", .free "len", .free "list", .free "tuple", .free "all", .free "any", .free "sum", .free "max", .free "min", .free "int", .free "str", .free "sorted", .free "dict", .free "repr", .free "set", .free "isinstance", .free "range", .free "enumerate", .free "zip", .free "bool", .glo "_law_told", .glo "CiteError", .glo "BadPart", .glo "BadNumber", .glo "Unknown", .glo "BadMark", .glo "BadChange", .glo "BadText", .glo "BadLine", .glo "BadClaim", .glo "NothingDone", .free "ValueError"]
def tf : List He.Defn := [("law", none)]
def TT (K : PySem.W.Frag) : List (Addr × Str) := [((He.cT K ("law", none)).2, "law.<locals>.<lambda>")]
def ex0 (K : PySem.W.Frag) : Bool := DI.supIn PRG K (He.ga K "BadNumber") (["value"] : List Str)
def ex1 (K : PySem.W.Frag) : Bool := DI.hexB K (He.ga K "BadNumber") (["value"] : List Str)
def ex2 (K : PySem.W.Frag) : Bool := decide (PySem.W.exmOne K (.ref (He.ga K "BadNumber")) (.ref (He.ga K "CiteError")) = some true)
def ex3 (K : PySem.W.Frag) : Bool := decide (PySem.W.kitOne K (.ref (He.ga K "BadNumber")) (.ref (He.ga K "BadPart")) = some false)
def ex4 (K : PySem.W.Frag) : Bool := decide (PySem.W.kitOne K (.ref (He.ga K "BadNumber")) (.ref (He.ga K "BadNumber")) = some true)
def ex5 (K : PySem.W.Frag) : Bool := decide (PySem.W.kitOne K (.ref (He.ga K "BadNumber")) (.ref (He.ga K "Unknown")) = some false)
def ex6 (K : PySem.W.Frag) : Bool := decide (PySem.W.kitOne K (.ref (He.ga K "BadNumber")) (.ref (He.ga K "BadMark")) = some false)
def ex7 (K : PySem.W.Frag) : Bool := decide (PySem.W.kitOne K (.ref (He.ga K "BadNumber")) (.ref (He.ga K "BadChange")) = some false)
def ex8 (K : PySem.W.Frag) : Bool := decide (PySem.W.kitOne K (.ref (He.ga K "BadNumber")) (.ref (He.ga K "BadText")) = some false)
def ex9 (K : PySem.W.Frag) : Bool := decide (PySem.W.kitOne K (.ref (He.ga K "BadNumber")) (.ref (He.ga K "BadLine")) = some false)
def ex10 (K : PySem.W.Frag) : Bool := decide (PySem.W.kitOne K (.ref (He.ga K "BadNumber")) (.ref (He.ga K "BadClaim")) = some false)
def ex11 (K : PySem.W.Frag) : Bool := decide (PySem.W.kitOne K (.ref (He.ga K "BadNumber")) (.ref (He.ga K "NothingDone")) = some false)
def ex12 (K : PySem.W.Frag) : Bool := decide (PySem.W.kitOne K (.ref (He.ga K "BadNumber")) (.type "ValueError") = some true)
def exX (K : PySem.W.Frag) : Bool := ex0 K && (ex1 K && (ex2 K && (ex3 K && (ex4 K && (ex5 K && (ex6 K && (ex7 K && (ex8 K && (ex9 K && (ex10 K && (ex11 K && (ex12 K && (true)))))))))))))
def ex (K : PySem.W.Frag) : Bool := (DI.consB K consts && decide ((TT K).map (·.1)).Nodup) && exX K
abbrev RR : PySem.W.OpenRow := PySem.W.OpenLaw.row ROW
abbrev hk : PySem.W.Hook := DI.hookS 800 fa fn tf ex
def ob (s : PySem.W.SharedT) : He.AlX := DI.obsS 800 fa fn tf ex (HandSHeadRun.getT s)
theorem ob_eq (s : PySem.W.SharedT) : ob s = hk.obs s.abs := DI.obsS_eq (HandSHeadRun.getT_eq s)
def nmOf : Stmt → List Str
  | .FunctionDef n _ _ _ _ _ _ _ _ _ => [n]
  | .ClassDef n _ _ _ _ _ _ _ _ _ _ => [n]
  | .Assign [.Name x _] _ _ => [x]
  | _ => []
def nms : List Str := ((PRG.main.body.take 35).flatMap nmOf).eraseDups.filter fun x => x ≠ "__name__"
theorem three {α β γ δ : Type} {x : Option α} {f : α → β} {g : α → γ} {h : α → δ} {a : β} {b : γ} {c : δ} (h1 : x.map f = some a) (h2 : x.map g = some b) (h3 : x.map h = some c) : x.map (fun s => (f s, g s, h s)) = some (a, b, c) := by
  cases x with
  | none => cases h1
  | some s => cases h1; cases h2; cases h3; rfl
section
open PySem.W PySem.Calls HandSHeadRun
abbrev QQ : Program := PySem.W.view RR.prog [35]
theorem runA (w : World) : ∀ os : OsState, (endF (stepQ (denQ tabQ) RR.prog w) 12000 RR.prog w os).map (fun s => looksF RR.prog (boot_heap w.params) s.abs) = some true := by
  intro os
  kernel_rfl
theorem runB (w : World) : ∀ os : OsState, (endF (stepQ (denQ tabQ) RR.prog w) 12000 RR.prog w os).map (fun s => seenQ QQ nms (importedModules RR.prog.main.body) (fun s => xlAt QQ [] s && recOk RR.toRowW.records s) s.abs) = some (openGood QQ nms) := by
  intro os
  kernel_rfl
theorem runC (w : World) : ∀ os : OsState, (endF (stepQ (denQ tabQ) RR.prog w) 12000 RR.prog w os).map (fun s => ob s) = some (hk.val w) := by
  intro os
  kernel_rfl
end
theorem run (w : World) : HandSHeadRun.RunEq RR (PySem.W.view RR.prog [35]) hk ob 12000 nms w := fun os => three (runA w os) (runB w os) (runC w os)
end LW
set_option Elab.async false
set_option linter.all false
set_option maxRecDepth 100000
set_option maxHeartbeats 1000000
/-! Xd: defs called within an except suite that read the exception; x(lambda: e) with all that is new told. -/
namespace DI
open PySem PySem.Spec PyProof.Rows
open L2 hiding ixN
/-- what a def promises that is called within a suite, the exception's object told -/
structure FnP (P : Program) (w : World) (K : PySem.W.Frag) (mg : Str → Option Value) (base : Heap) (CX : CXT) (k : Nat) (f : Addr) (fd : FuncData) (ps : List Str) (sp : Addr × Obj → Sp) : Prop where
  len : ∀ p vs H Q E, sp p vs H Q E → vs.length = ps.length
  run : ∀ (A : Around) (outer : List Env) (s : Shared) (H : Hp) (args : Args) (us : List Value) (vs : List V) (Q : VK) (E : XK) (p : Addr × Obj), L2H.RoomH k A → L2H.PinOk outer H s p → Env0 P w K mg base A outer s H → BindsTo s fd args (ps.zip us) → Vals vs us → sp p vs H Q E →
    codeAny (model P w) A (.call (.ref f) args) (CR CX outer P w H s Q E) s
theorem fn_ofP {CX : CXT} {P : Program} {w : World} {K : PySem.W.Frag} {mg : Str → Option Value} {base : Heap} {k : Nat} {f : Addr} {name qual : Str} {params : Arguments} {body : List Stmt} {scope : Scope} {dV kV doc pm cdv ct oc : Value} {an od : Option Addr}
    {osl : Array (Option Value)} {N ps : List Str} {sp : Addr × Obj → Sp} (lk : K.lookup f = some ⟨oc, od, .func (PySem.W.fnOf name qual params body scope dV kV doc pm an cdv ct), osl⟩) (hcd : PySem.W.codeIn K cdv qual = true) (S : FnScope N ps scope)
    (len : ∀ p vs H Q E, sp p vs H Q E → vs.length = ps.length)
    (hbody : ∀ (A : Around) (outer : List Env) (s : Shared) (H : Hp) (vs : List V) (Q : VK) (E : XK) (p : Addr × Obj), L2H.RoomH k (A.deeper (envOfC qual scope s.heap.objs.size f cdv)) → sp p vs H Q E →
      ∃ t, PSs (L2H.cxH CX P w K mg base N qual scope f cdv A outer s H E p) body t ∧ t { nx := fun _ H' => Q .non H', rt := Q } (L2.start N vs) H) :
    FnP P w K mg base CX (k + 1) f (PySem.W.fnOf name qual params body scope dV kV doc pm an cdv ct) ps sp := by
  refine ⟨len, fun A outer s H args us vs Q E p hr hpin e0 hb r hsp => ?_⟩
  have hl := len _ _ _ _ _ hsp
  have KX : K.In s.heap := e0.mod.kin.keeps fun b o e => (e0.bs b o e).1
  have lim : s.heap.NoLimit := e0.mod.nolimit.keeps fun b o e => (e0.bs b o e).1
  have hkind : ∀ y ∈ ps.zip us, scope.names.lookup y.1 = some .local ∨ (scope.names.lookup y.1 = some .cell ∧ ((cellsFrom (s.heap.objs.size + 1) scope.names []).lookup y.1).isSome = true) := fun ⟨n, v⟩ hy => by
    rcases S.par n (List.of_mem_zip hy).1 with q | q
    · exact .inl q
    · exact .inr ⟨q, PySem.W.cellsFrom_some _ _ _ (.inl q)⟩
  refine codeAny_call_function hr.depth (KX _ _ lk) rfl S.co S.gen rfl (PySem.W.codeRec_of KX hcd) (hb _ _ _ _ ?_)
  refine wpAny_newFunctionEnv_cells S.kind hkind fun env he s1 x => ?_
  subst he
  refine ⟨lim.keeps x.toInCall.keep, codeAny_func ?_⟩
  obtain ⟨t, ht, hq⟩ := hbody A outer s H vs Q E p (hr.deeper _) hsp
  have I : Inv (L2H.cxH CX P w K mg base N qual scope f cdv A outer s H E p) [] (L2.start N vs) H s1 := L2H.inv_startH S hpin e0 hl r x
  refine wpAny_mono (ht.run [] s1 (L2.start N vs) H _ I hq) (fun fl s' hs => ?_) fun e s' hs => hs
  have fin : ∀ {σ' : L2.St} {H' : Hp} {v : V} {u : Value}, Inv (L2H.cxH CX P w K mg base N qual scope f cdv A outer s H E p) [] σ' H' s' → RelV v u → Q v H' → CE outer P w H s Q u s' :=
    fun {σ' H' v u} J rv q => ⟨v, H', J.os, J.bare, J.base, J.hok, rv, q⟩
  cases fl with
  | ret u =>
    obtain ⟨v, σ', H', J, rv, q⟩ := hs
    exact fin J rv q
  | next =>
    obtain ⟨σ', H', J, q⟩ := hs
    exact fin (v := V.non) (u := Value.none) J rfl q
  | brk =>
    obtain ⟨_, _, _, q⟩ := hs
    exact False.elim q
  | cont =>
    obtain ⟨_, _, _, q⟩ := hs
    exact False.elim q
section
variable {X : Cx} {CX : CXT} {k : Nat} {f : Addr} {fd : FuncData} {ps : List Str} {sp : Addr × Obj → Sp} {x : Str} {q pos : Pos} {e : Expr} {es : List Expr} {t : TA} {p : Addr × Obj}
def tCallP (sp : Addr × Obj → Sp) (p : Addr × Obj) (t : TA) : TE := fun σ H Q => t σ H fun vs H1 => sp p vs H1 Q fun _ _ _ => False
theorem pe_callP (F : FnP X.prog X.w X.K X.mg X.base CX k f fd ps sp) (hr : L2H.RoomH k X.A) (hc : p ∈ X.pn) (hg : Gl X x) (hm : X.mg x = some (.ref f)) (hk : PySem.W.keepIn X.K (.ref f) = true) (hb : Binds X.K fd ps []) (hx : ∀ σ, PassesAt CX X σ (fun _ _ _ => False))
    (ha : PA X (e :: es) t) (hdb : (x == ("__debug__" : Str)) = false := by decide) (he : starEach (e :: es) X.env = (false, eval e X.env) :: starEach es X.env := by rfl) (hpl : (backTo pos (starEach es X.env)).any (·.1) = false := by rfl) :
    PE X (.Call (.Name x q) (e :: es) [] pos) (tCallP sp p t) := by
  refine ⟨fun pins s σ H Q I h => ?_⟩
  refine wpAny_Call_Name_kw (ld_glob I hg hm ?_ hdb)
  refine PySem.W.callWith_K (h₀ := X.base) I.ok.mod.kin hk (thn (ha.run pos pins s σ H _ I h) fun us s1 ⟨vs, H1, I1, r, qq⟩ => ⟨I1.kIn, ?_⟩) he hpl
  have hl : us.length = ps.length := by rw [← r.length]; exact F.len _ _ _ _ _ qq
  have b := hb s1 us I1.kIn (by rw [List.append_nil]; exact hl)
  rw [List.append_nil] at b
  have P1 := I1.pin p (List.mem_append_left _ hc)
  have hpin : L2H.PinOk X.stack H1 s1 p := ⟨P1.1, P1.2.1, fun hm => (List.mem_cons.mp (I1.stkSub p.1 hm)).elim P1.2.2.1 P1.2.2.2.1, P1.2.2.2.2⟩
  refine wpAny_call (codeAny_mono (F.run X.A X.stack s1 H1 ⟨us, []⟩ us vs Q (fun _ _ _ => False) p hr hpin I1.env0 b r qq) fun r s' hq => ?_)
  cases r with
  | error e => exact hx σ pins H1 s1 e s' I1 hq
  | ok fl =>
    cases fl with
    | ret u => exact I1.after hq
    | next => exact False.elim hq
    | brk => exact False.elim hq
    | cont => exact False.elim hq
end
/-! ### a lambda made, all that is new told -/
/-- what is new behind the making of a lambda: its code object at c', of the name q -/
structure Made3 (T : List (Addr × Str)) (H H2 : Hp) (c' : Addr) (q : Str) : Prop where
  old : ∀ b o, H b = some o → ¬ IsTbl o → H2 b = some o
  tbl : ∀ b o, H b = some o → IsTbl o → ∃ o', H2 b = some o' ∧ IsTbl o'
  tabs : LamX.Tabs T H2
  hc : H2 c' = some (LamX.CodeO c' q)
  new : ∀ b o, H2 b = some o → b = c' ∨ H b ≠ none
section
variable {X : Cx} {pins : List (Addr × Obj)} {σ : L2.St} {H : Hp} {s : Shared}
theorem lam_make3 {T : List (Addr × Str)} {c P : Addr} {params : Arguments} {body : Expr} {scope : Scope} {pos : Pos} {E : Value → Shared → Prop} {Q : Value → Shared → Prop} (I : Inv X pins σ H s) (TB : LamX.TabB X.base X.mg c P) (hcode : X.env.code = .ref c)
    (hm : (P, X.env.qual ++ "<lambda>") ∈ T) (hu : ∀ p ∈ T, p.1 = P → p.2 = X.env.qual ++ "<lambda>") (hT : LamX.Tabs T H) (hdef : defaultsOf params X.env = ([], [])) (hfree : ∀ y ∈ scope.names, y.2 = .free → ∃ c, X.env.cells.lookup y.1 = some c)
    (h : ∀ (f c' : Addr) (pm ctv : Value) (H1 : Hp) (s' : Shared), Inv X pins σ H1 s' → Made3 T H H1 c' (X.env.qual ++ "<lambda>") →
      s'.heap.get? f = some (PySem.W.kla_obj "<lambda>" (X.env.qual ++ "<lambda>") params body scope (cloFrom X.env.cells scope.names []) pm c' ctv) → H1 f = none → f ∉ frs X.stack → Q (.ref f) s') :
    wpAny (model X.prog X.w) X.A (eval (.Lambda params body scope pos) X.env) Q E s := by
  obtain ⟨ps, hP, ht, ha⟩ := hT _ hm
  refine PySem.W.kla_eval hdef ?_
  have bP : s.heap.BuiltinsAt X.mg P := TB.bm.keeps I.bk
  have hP' : s.heap.get? P = some { cls := .none, data := .fields ps } := I.hok P _ hP
  have nofr : ∀ f, s.heap.objs.size ≤ f → f ∉ frs X.stack := fun f hf z => by
    rcases List.mem_cons.mp (I.stkSub _ z) with e | e
    · have h1 := I.lt
      rw [← e] at h1
      exact Nat.lt_irrefl _ (Nat.lt_of_lt_of_le h1 hf)
    · exact I.nofs hf e
  cases hc : codeAmong pos ps.toList with
  | none =>
    refine PySem.W.kla_makeFunction (mg := X.mg) (c := c) (P := P) (ps := ps) (closure_ok hfree) I.ok.glob (I.mod.glob.keeps I.bk) hcode (TB.code.keeps I.bk) hP' ht hc TB.gP bP fun c' ctv h' tk hx hge hlt hrec htb => ?_
    obtain ⟨c2, oc, vs, t, e2, hoc, hd, hv⟩ := hrec
    cases e2
    have hsz : s.heap.objs.size ≤ h'.objs.size := Nat.le_trans hge (Nat.le_of_lt hlt)
    have nC : H c' = none := I.hok.fresh hge
    have I1 := LamX.inv_table (t' := tk) (q := X.env.qual ++ "<lambda>") (more := #[rawInt pos.line, rawInt pos.col, .ref c']) (h' := h'.push (PySem.W.kla_obj "<lambda>" (X.env.qual ++ "<lambda>") params body scope (cloFrom X.env.cells scope.names []) ((X.mg "__name__").getD .none) c' ctv)) I hP
      (fun b o hb e => Heap.get?_push_of_some _ (hx b o hb e)) (Heap.get?_push_of_some _ htb) hge ⟨oc, vs, t, Heap.get?_push_of_some _ hoc, hd, hv⟩
    have nPc : P ≠ c' := ne_of_none hP nC
    have hPat : upd (upd H P (.tbl (ps ++ #[rawInt pos.line, rawInt pos.col, .ref c']))) c' (LamX.CodeO c' (X.env.qual ++ "<lambda>")) P = some (.tbl (ps ++ #[rawInt pos.line, rawInt pos.col, .ref c'])) := by rw [upd_ne nPc, upd_same]
    have at1 : ∀ b o, H b = some o → b ≠ P → upd (upd H P (.tbl (ps ++ #[rawInt pos.line, rawInt pos.col, .ref c']))) c' (LamX.CodeO c' (X.env.qual ++ "<lambda>")) b = some o := fun b o e hb => by
      rw [upd_ne (ne_of_none e nC), upd_ne hb]; exact e
    have hE : ∀ b o, H b = some o → ¬ IsTbl o → upd (upd H P (.tbl (ps ++ #[rawInt pos.line, rawInt pos.col, .ref c']))) c' (LamX.CodeO c' (X.env.qual ++ "<lambda>")) b = some o := fun b o e n =>
      at1 b o e fun z => n ⟨ps, Option.some.inj (e.symm.trans (by rw [z]; exact hP))⟩
    have eL : (ps ++ #[rawInt pos.line, rawInt pos.col, .ref c']).toList = ps.toList ++ [rawInt pos.line, rawInt pos.col, .ref c'] := by simp
    refine h h'.objs.size c' ((X.mg "__name__").getD .none) ctv _ _ I1 ⟨hE, fun b o e t => ?_, fun p hp => ?_, upd_same, fun b o e => ?_⟩ (Heap.get?_push_size _ rfl) ?_ (nofr _ hsz)
    · by_cases hb : b = P
      · rw [hb]; exact ⟨_, hPat, _, rfl⟩
      · exact ⟨o, at1 b o e hb, t⟩
    · by_cases hb : p.1 = P
      · rw [hu p hp hb, hb]
        refine ⟨_, hPat, by rw [eL]; exact PySem.TriplesOk_snoc _ _ _ _ ht, fun p' cv hcv => ?_⟩
        rw [eL] at hcv
        rcases LamX.among_app _ ht hcv with z | z
        · obtain ⟨c0, e1, e2⟩ := ha p' cv z
          exact ⟨c0, e1, hE _ _ e2 (fun ⟨_, z⟩ => LamX.codeO_ne _ z)⟩
        · exact ⟨c', z, upd_same⟩
      · obtain ⟨ps', a1, a2, a3⟩ := hT p hp
        refine ⟨ps', at1 _ _ a1 hb, a2, fun p' cv hcv => ?_⟩
        obtain ⟨c0, e1, e2⟩ := a3 p' cv hcv
        exact ⟨c0, e1, hE _ _ e2 (fun ⟨_, z⟩ => LamX.codeO_ne _ z)⟩
    · by_cases z2 : b = c'
      · exact .inl z2
      · right
        rw [upd_ne z2] at e
        by_cases z3 : b = P
        · rw [z3, hP]; simp
        · rw [upd_ne z3] at e; rw [e]; simp
    · have n1 : h'.objs.size ≠ c' := Nat.ne_of_gt hlt
      have n2 : h'.objs.size ≠ P := Nat.ne_of_gt (Nat.lt_of_lt_of_le (Heap.lt_size hP') hsz)
      rw [upd_ne n1, upd_ne n2]
      exact I.hok.fresh hsz
  | some cv =>
    obtain ⟨c', e, hco⟩ := ha pos cv hc
    subst e
    refine PySem.W.kla_makeFunctionHit (mg := X.mg) (c := c) (P := P) (ps := ps) (closure_ok hfree) I.ok.glob (I.mod.glob.keeps I.bk) hcode (TB.code.keeps I.bk) hP' ht hc bP fun ctv h' tk hx hsz => ?_
    have I1 : Inv X pins σ H { s with heap := h'.push (PySem.W.kla_obj "<lambda>" (X.env.qual ++ "<lambda>") params body scope (cloFrom X.env.cells scope.names []) ((X.mg "__name__").getD .none) c' ctv), toks := tk } := I.kept fun b o e => Heap.get?_push_of_some _ (hx b o e)
    exact h h'.objs.size c' ((X.mg "__name__").getD .none) ctv H _ I1 ⟨fun _ _ e _ => e, fun b o e t => ⟨o, e, t⟩, hT, hco, fun b o e => .inr (by rw [e]; simp)⟩ (Heap.get?_push_size _ rfl) (I.hok.fresh hsz) (nofr _ hsz)
end
def tTell (T : List (Addr × Str)) (qual : Str) (TT : (XK → Hp → VK → Prop) → Hp → VK → Prop) (t : XK → TE) : TE := fun σ H Q => LamX.Tabs T H ∧ ∀ c' H1, Made3 T H H1 c' qual → TT (fun E H' Q' => t E σ H' Q') H1 Q
section
variable {X : Cx}
/-- x(lambda: body) -/
theorem pe_tell {T : List (Addr × Str)} {TT : (XK → Hp → VK → Prop) → Hp → VK → Prop} {x a : Str} {g c P : Addr} {k : Nat} {pg : Arguments} {bg : List Stmt} {sg : Scope} {dV kV doc pm cdv ct oc : Value} {an od : Option Addr} {osl : Array (Option Value)} {Ng : List Str}
    {params : Arguments} {body : Expr} {scope : Scope} {t : XK → TE} {p lpos pos : Pos} (hg : Gl X x) (hm : X.mg x = some (.ref g)) (hk : PySem.W.keepIn X.K (.ref g) = true)
    (lk : X.K.lookup g = some ⟨oc, od, .func (PySem.W.fnOf x x pg bg sg dV kV doc pm an cdv ct), osl⟩) (hcg : PySem.W.codeIn X.K cdv x = true) (hb : L2.Binds X.K (PySem.W.fnOf x x pg bg sg dV kV doc pm an cdv ct) [a] []) (Sg : FnScope Ng [a] sg) (hNg : Ng[0]? = some a) (hva : Vis sg a)
    (hG : LamX.GivesTo X Ng x sg g cdv bg a (X.env.qual ++ "<lambda>") TT)
    (TB : LamX.TabB X.base X.mg c P) (hcode : X.env.code = .ref c) (hmT : (P, X.env.qual ++ "<lambda>") ∈ T) (hu : ∀ p ∈ T, p.1 = P → p.2 = X.env.qual ++ "<lambda>") (hr : Room (k + 2) X.A) (L : LamX.LamS X.env.scope scope) (hdef : defaultsOf params X.env = ([], []))
    (hbind : ∀ (q : Str) (cl : List (Str × Addr)) (pm cv ctv : Value), bindArgs (PySem.W.kla_fn "<lambda>" q params body scope cl pm cv ctv) ⟨[], []⟩ = pure [])
    (hbody : ∀ (A : Around) (outer : List Env) (s : Shared) (H : Hp) (E : XK) (f c' : Addr), Room k (A.deeper (LamX.lamEnv X scope s.heap.objs.size f c')) → PE (LamX.lamCx X A outer s H E scope f c') body (t E))
    (hdb : (x == ("__debug__" : Str)) = false) (hd : (a == ("__debug__" : Str)) = false) (hcd : (a == ("__classdict__" : Str)) = false) :
    PE X (.Call (.Name x p) [.Lambda params body scope lpos] [] pos) (tTell T (X.env.qual ++ "<lambda>") TT t) := by
  refine ⟨fun pins s σ H Q I h => ?_⟩
  obtain ⟨hT, h⟩ := h
  refine wpAny_Call_Name_kw (ld_glob I hg hm ?_ hdb)
  refine PySem.W.callWith_K (h₀ := X.base) I.ok.mod.kin hk ?_ (by rfl) (by rfl)
  show wpAny _ _ (spliced ((false, eval (.Lambda params body scope lpos) X.env) :: backTo pos (starEach [] X.env))) _ _ s
  refine Calls.spliced_cons (lam_make3 I TB hcode hmT hu hT hdef (L.has I.ok) fun f c' pm' ctv H1 s' I1 M hf hfn hfr => ?_)
  refine Calls.spliced_nil ⟨I1.kIn, ?_⟩
  have rc : codeAny (model X.prog X.w) X.A (.call (.ref g) ⟨[.ref f], []⟩) (CR C8.CX0 X.stack X.prog X.w H1 s' Q C8.E0) s' := by
    refine LamX.run_ofS (N := Ng) (ps := [a]) (us := [.ref f]) (vs := [.ref f]) lk hcg Sg hr I1.env0 (hb s' [.ref f] I1.kIn rfl) (.cons rfl .nil) rfl fun hr' => ?_
    obtain ⟨t', ht', hq'⟩ := hG f c' s' H1 Q (fun E H' Q' => t E σ H' Q') (fun W pn xe E p1 p2 tk hW => LamX.pe_act (i := 0) I1 L hf hfn hfr (hbind _ _ _ _ _) tk hW hr' (fun A outer s H hr2 => hbody A outer s H E f c' hr2) hNg hva hd hcd) M.hc (h c' H1 M)
    exact ⟨t', ht'.nox, hq'⟩
  refine wpAny_call (codeAny_mono rc fun r s2 hq => ?_)
  cases r with
  | error e => exact (show False from hq).elim
  | ok fl =>
    cases fl with
    | ret u => exact I1.after hq
    | next => exact False.elim hq
    | brk => exact False.elim hq
    | cont => exact False.elim hq
end
end DI
set_option Elab.async false
set_option linter.all false
set_option maxRecDepth 100000
set_option maxHeartbeats 1000000
/-! Xl: lambdas with one parameter that has a default, and captured names: made, called by a def that got them. -/
namespace DI
open PySem PySem.Spec PyProof.Rows
open L2 hiding ixN
/-- one parameter a with the default i -/
def paramsD : Arguments → Option (Str × Int)
  | ⟨[], [x], none, [], [], none, [.Constant (.int i) _ _]⟩ => some (x.arg, i)
  | _ => none
/-- the defaults of such a lambda -/
def DefO (t : Addr) (i : Int) : HO := .ext fun h => ∃ tk, h.get? t = some (PySem.W.kdv_tup [.int i tk])
/-- such a lambda -/
def LamDO (cells : List (Str × Addr)) (qual : Str) (Ψ : Arguments → Expr → Scope → Prop) (f c' t : Addr) : HO :=
  .ext fun h => ∃ params body scope pm doc ctv, h.get? f = some (PySem.W.kdv_obj "<lambda>" qual params (.expr body) scope (cloFrom cells scope.names []) (.ref t) doc pm c' ctv) ∧ Ψ params body scope
theorem nt_LamDO {cells qual Ψ f c' t} : ¬ IsTbl (LamDO cells qual Ψ f c' t) := fun ⟨_, z⟩ => by unfold LamDO at z; cases z
theorem nt_DefO {t i} : ¬ IsTbl (DefO t i) := fun ⟨_, z⟩ => by unfold DefO at z; cases z
/-- a lambda's names: one of its own, captured ones and globals -/
structure LamD (sc scope : Scope) (a : Str) : Prop where
  kind : scope.kind = .function
  co : scope.isCoroutine = false
  gen : scope.isGenerator = false
  own : ∀ y ∈ scope.names, (y.2 = .local → y.1 = a) ∧ y.2 ≠ .cell
  par : scope.names.lookup a = some .local
  free : ∀ y ∈ scope.names, y.2 = .free → sc.names.lookup y.1 = some .cell ∨ sc.names.lookup y.1 = some .free
def lamDB (sc scope : Scope) (a : Str) : Bool :=
  decide (scope.kind = .function) && (!scope.isCoroutine && (!scope.isGenerator && (decide (scope.names.lookup a = some .local) && scope.names.all fun y => (!decide (y.2 = .local) || decide (y.1 = a)) && (!decide (y.2 = .cell) && (!decide (y.2 = .free) || (decide (sc.names.lookup y.1 = some .cell) || decide (sc.names.lookup y.1 = some .free)))))))
theorem lamD_by {sc scope : Scope} {a : Str} (h : lamDB sc scope a = true) : LamD sc scope a := by
  unfold lamDB at h
  simp only [Bool.and_eq_true, Bool.or_eq_true, Bool.not_eq_true', decide_eq_true_eq, decide_eq_false_iff_not, List.all_eq_true] at h
  obtain ⟨h1, h2, h3, h5, h4⟩ := h
  refine ⟨h1, h2, h3, fun y hy => ⟨fun e => ?_, (h4 y hy).2.1⟩, h5, fun y hy e => ?_⟩
  · rcases (h4 y hy).1 with z | z
    · exact absurd e z
    · exact z
  · rcases (h4 y hy).2.2 with z | z
    · exact absurd e z
    · exact z
section
variable {X : Cx} {pins : List (Addr × Obj)} {σ : L2.St} {H HZ : Hp} {s s1 : Shared}
theorem LamD.has {scope : Scope} {a : Str} (L : LamD X.env.scope scope a) (ok : X.Ok) : ∀ y ∈ scope.names, y.2 = .free → ∃ c, X.env.cells.lookup y.1 = some c := fun y hy e => by
  rcases L.free y hy e with k | k
  · exact ok.has _ (.inl k)
  · exact ok.has _ (.inr k)
/-- what is new behind the making -/
structure MadeD (T : List (Addr × Str)) (H H2 : Hp) (q : Str) (o : Addr → Addr → Addr → HO) (i : Int) (f c' t : Addr) : Prop where
  old : ∀ b o, H b = some o → ¬ IsTbl o → H2 b = some o
  tbl : ∀ b o, H b = some o → IsTbl o → ∃ o', H2 b = some o' ∧ IsTbl o'
  tabs : LamX.Tabs T H2
  hc : H2 c' = some (LamX.CodeO c' q)
  nf : H f = none
  nt : H t = none
  hf : H2 f = some (o f c' t)
  ht : H2 t = some (DefO t i)
  ne : f ≠ t ∧ f ≠ c' ∧ t ≠ c'
  new : ∀ b o, H2 b = some o → b = f ∨ b = t ∨ b = c' ∨ H b ≠ none
theorem defO_new {P : Program} {w : World} {Hx : Hp} {h : Heap} {t : Addr} {i : Int} {tk : Tok} (e : h.get? t = some (PySem.W.kdv_tup [.int i tk])) : ObjOk P w Hx h t (DefO t i) :=
  ⟨⟨tk, e⟩, ⟨_, e⟩, fun h1 h2 ⟨tk, e⟩ k => ⟨tk, k _ e⟩⟩
theorem lamDO_new {P : Program} {w : World} {Hx : Hp} {h : Heap} {cells : List (Str × Addr)} {qual : Str} {Ψ : Arguments → Expr → Scope → Prop} {f c' t : Addr} {params : Arguments} {body : Expr} {scope : Scope} {pm doc ctv : Value}
    (e : h.get? f = some (PySem.W.kdv_obj "<lambda>" qual params (.expr body) scope (cloFrom cells scope.names []) (.ref t) doc pm c' ctv)) (hΨ : Ψ params body scope) : ObjOk P w Hx h f (LamDO cells qual Ψ f c' t) :=
  ⟨⟨params, body, scope, pm, doc, ctv, e, hΨ⟩, ⟨_, e⟩, fun h1 h2 ⟨a, b, c, d, e, f, g, z⟩ k => ⟨a, b, c, d, e, f, k _ g, z⟩⟩
theorem paramsD_of {pa : Arguments} {a : Str} {i : Int} (h : paramsD pa = some (a, i)) : ∃ x j p, x.arg = a ∧ pa = ⟨[], [x], none, [], [], none, [.Constant (.int i) j p]⟩ := by
  unfold paramsD at h
  split at h
  · rename_i x i' j p
    cases h
    exact ⟨x, j, p, rfl, rfl⟩
  · cases h
theorem lam_makeD {T : List (Addr × Str)} {c P : Addr} {params : Arguments} {body : Expr} {scope : Scope} {pos : Pos} {a : Str} {i : Int} {Ψ : Arguments → Expr → Scope → Prop} {E : Value → Shared → Prop} {Q : Value → Shared → Prop} (I : Inv X pins σ H s) (TB : LamX.TabB X.base X.mg c P) (hcode : X.env.code = .ref c)
    (hm : (P, X.env.qual ++ "<lambda>") ∈ T) (hu : ∀ p ∈ T, p.1 = P → p.2 = X.env.qual ++ "<lambda>") (hT : LamX.Tabs T H) (hpa : paramsD params = some (a, i)) (hΨ : Ψ params body scope) (hfree : ∀ y ∈ scope.names, y.2 = .free → ∃ c, X.env.cells.lookup y.1 = some c)
    (h : ∀ (f c' t : Addr) (H1 : Hp) (s' : Shared), Inv X pins σ H1 s' → MadeD T H H1 (X.env.qual ++ "<lambda>") (LamDO X.env.cells (X.env.qual ++ "<lambda>") Ψ) i f c' t → Q (.ref f) s') :
    wpAny (model X.prog X.w) X.A (eval (.Lambda params body scope pos) X.env) Q E s := by
  obtain ⟨x, j, pp, rfl, rfl⟩ := paramsD_of hpa
  refine PySem.W.kdv_lam rfl rfl (PySem.W.kdv_all1 (wpAny_Constant_int (PySem.W.kdv_all0 ?_)))
  rw [makeFunction_eq]
  simp only [List.zip_nil_right, List.filterMap_nil, List.isEmpty_nil, if_true, pure_bind, List.isEmpty_cons, Bool.false_eq_true, if_false]
  refine wpAny_bind (wpAny_newTextTuple ?_)
  have hT0 := hT
  obtain ⟨ps, hP, ht, ha⟩ := hT _ hm
  have htn : H s.heap.objs.size = none := I.hok.fresh (Nat.le_refl _)
  have I0 : Inv X pins σ (upd H s.heap.objs.size (DefO s.heap.objs.size i)) { s with heap := s.heap.push (PySem.W.kdv_tup [.int i s.toks]), toks := s.toks + 1 } :=
    I.laid (t' := s.toks + 1) (fun b o e => Heap.get?_push_of_some _ e) (Nat.le_refl _) (defO_new (Heap.get?_push_size _ rfl))
  generalize hsz0 : s.heap.objs.size = t at *
  have hlt0 : (s.heap.push (PySem.W.kdv_tup [.int i s.toks])).objs.size = t + 1 := by rw [Heap.size_push, hsz0]
  show wpAny _ _ (makeTail "<lambda>" (X.env.qual ++ "<lambda>") _ (.expr body) scope X.env (.ref t) .none none pos pos.line) _ _ { s with heap := s.heap.push (PySem.W.kdv_tup [.int i s.toks]), toks := s.toks + 1 }
  generalize hs0 : ({ s with heap := s.heap.push (PySem.W.kdv_tup [.int i s.toks]), toks := s.toks + 1 } : Shared) = s0 at *
  have hlt : s0.heap.objs.size = t + 1 := by rw [← hs0]; exact hlt0
  have hPn : upd H t (DefO t i) P = some (.tbl ps) := by rw [upd_ne (ne_of_none hP htn)]; exact hP
  have hP' : s0.heap.get? P = some { cls := .none, data := .fields ps } := I0.hok P _ hPn
  have bP : s0.heap.BuiltinsAt X.mg P := TB.bm.keeps I0.bk
  have at0 : ∀ b o, H b = some o → upd H t (DefO t i) b = some o := fun b o e => by rw [upd_ne (ne_of_none e htn)]; exact e
  have tPn : t ≠ P := fun z => by rw [z, hP] at htn; cases htn
  cases hc : codeAmong pos ps.toList with
  | none =>
    refine PySem.W.kdv_makeTail (mg := X.mg) (c := c) (P := P) (ps := ps) (closure_ok hfree) I0.ok.glob (I0.mod.glob.keeps I0.bk) hcode (TB.code.keeps I0.bk) hP' ht hc TB.gP bP fun c' ctv doc h' tk hx hge hlt2 hrec htb => ?_
    obtain ⟨c2, oc, vs, t2, e2, hoc, hd, hv⟩ := hrec
    cases e2
    have hsz : s0.heap.objs.size ≤ h'.objs.size := Nat.le_trans hge (Nat.le_of_lt hlt2)
    have nC : upd H t (DefO t i) c' = none := I0.hok.fresh hge
    have I1 := LamX.inv_table (t' := tk) (q := X.env.qual ++ "<lambda>") (more := #[rawInt pos.line, rawInt pos.col, .ref c']) (h' := h') I0 hPn (fun b o hb e => hx b o hb e) htb hge ⟨oc, vs, t2, hoc, hd, hv⟩
    have hfn : upd H t (DefO t i) h'.objs.size = none := I0.hok.fresh hsz
    have n1 : h'.objs.size ≠ c' := Nat.ne_of_gt hlt2
    have n2 : h'.objs.size ≠ P := Nat.ne_of_gt (Nat.lt_of_lt_of_le (Heap.lt_size hP') hsz)
    have n3 : h'.objs.size ≠ t := by omega
    have n4 : t ≠ c' := by omega
    have nPc : P ≠ c' := ne_of_none hPn nC
    have I2 : Inv X pins σ (upd (upd (upd (upd H t (DefO t i)) P (.tbl (ps ++ #[rawInt pos.line, rawInt pos.col, .ref c']))) c' (LamX.CodeO c' (X.env.qual ++ "<lambda>"))) h'.objs.size (LamDO X.env.cells (X.env.qual ++ "<lambda>") Ψ h'.objs.size c' t))
        { s0 with heap := h'.push (PySem.W.kdv_obj "<lambda>" (X.env.qual ++ "<lambda>") ⟨[], [x], none, [], [], none, [.Constant (.int i) j pp]⟩ (.expr body) scope (cloFrom X.env.cells scope.names []) (.ref t) doc ((X.mg "__name__").getD .none) c' ctv), toks := tk } :=
      I1.laid (t' := tk) (fun b o e => Heap.get?_push_of_some _ e) (Nat.le_refl _) (lamDO_new (Heap.get?_push_size _ rfl) hΨ)
    have eL : (ps ++ #[rawInt pos.line, rawInt pos.col, .ref c']).toList = ps.toList ++ [rawInt pos.line, rawInt pos.col, .ref c'] := by simp
    have at1 : ∀ b o, H b = some o → b ≠ P → upd (upd (upd (upd H t (DefO t i)) P (.tbl (ps ++ #[rawInt pos.line, rawInt pos.col, .ref c']))) c' (LamX.CodeO c' (X.env.qual ++ "<lambda>"))) h'.objs.size (LamDO X.env.cells (X.env.qual ++ "<lambda>") Ψ h'.objs.size c' t) b = some o := fun b o e hb => by
      have e0 := at0 b o e
      rw [upd_ne (ne_of_none e0 hfn), upd_ne (ne_of_none e0 nC), upd_ne hb]; exact e0
    have hE : ∀ b o, H b = some o → ¬ IsTbl o → upd (upd (upd (upd H t (DefO t i)) P (.tbl (ps ++ #[rawInt pos.line, rawInt pos.col, .ref c']))) c' (LamX.CodeO c' (X.env.qual ++ "<lambda>"))) h'.objs.size (LamDO X.env.cells (X.env.qual ++ "<lambda>") Ψ h'.objs.size c' t) b = some o := fun b o e n =>
      at1 b o e fun z => n ⟨ps, Option.some.inj (e.symm.trans (by rw [z]; exact hP))⟩
    have hPat : upd (upd (upd (upd H t (DefO t i)) P (.tbl (ps ++ #[rawInt pos.line, rawInt pos.col, .ref c']))) c' (LamX.CodeO c' (X.env.qual ++ "<lambda>"))) h'.objs.size (LamDO X.env.cells (X.env.qual ++ "<lambda>") Ψ h'.objs.size c' t) P = some (.tbl (ps ++ #[rawInt pos.line, rawInt pos.col, .ref c'])) := by
      rw [upd_ne n2.symm, upd_ne nPc, upd_same]
    have hcat : upd (upd (upd (upd H t (DefO t i)) P (.tbl (ps ++ #[rawInt pos.line, rawInt pos.col, .ref c']))) c' (LamX.CodeO c' (X.env.qual ++ "<lambda>"))) h'.objs.size (LamDO X.env.cells (X.env.qual ++ "<lambda>") Ψ h'.objs.size c' t) c' = some (LamX.CodeO c' (X.env.qual ++ "<lambda>")) := by
      rw [upd_ne n1.symm, upd_same]
    have hfH : H h'.objs.size = none := by rw [upd_ne n3] at hfn; exact hfn
    refine h h'.objs.size c' t _ _ I2 ⟨hE, fun b o e z => ?_, fun p hp => ?_, hcat, hfH, htn, upd_same, by rw [upd_ne n3.symm, upd_ne n4, upd_ne tPn, upd_same], ⟨n3, n1, n4⟩, fun b o e => ?_⟩
    · by_cases hb : b = P
      · rw [hb]; exact ⟨_, hPat, _, rfl⟩
      · exact ⟨o, at1 b o e hb, z⟩
    · by_cases hb : p.1 = P
      · rw [hu p hp hb, hb]
        refine ⟨_, hPat, by rw [eL]; exact PySem.TriplesOk_snoc _ _ _ _ ht, fun p' cv hcv => ?_⟩
        rw [eL] at hcv
        rcases LamX.among_app _ ht hcv with z | z
        · obtain ⟨c0, e1, e2⟩ := ha p' cv z
          exact ⟨c0, e1, hE _ _ e2 (fun ⟨_, z⟩ => LamX.codeO_ne _ z)⟩
        · exact ⟨c', z, hcat⟩
      · obtain ⟨ps', a1, a2, a3⟩ := hT0 p hp
        refine ⟨ps', at1 _ _ a1 hb, a2, fun p' cv hcv => ?_⟩
        obtain ⟨c0, e1, e2⟩ := a3 p' cv hcv
        exact ⟨c0, e1, hE _ _ e2 (fun ⟨_, z⟩ => LamX.codeO_ne _ z)⟩
    · by_cases z1 : b = h'.objs.size
      · exact .inl z1
      · by_cases z2 : b = c'
        · exact .inr (.inr (.inl z2))
        · by_cases z4 : b = t
          · exact .inr (.inl z4)
          · right; right; right
            rw [upd_ne z1, upd_ne z2] at e
            by_cases z3 : b = P
            · rw [z3, hP]; simp
            · rw [upd_ne z3, upd_ne z4] at e; rw [e]; simp
  | some cv =>
    obtain ⟨c', e, hco⟩ := ha pos cv hc
    subst e
    refine PySem.W.kdv_makeTailHit (mg := X.mg) (c := c) (P := P) (ps := ps) (closure_ok hfree) I0.ok.glob (I0.mod.glob.keeps I0.bk) hcode (TB.code.keeps I0.bk) hP' ht hc bP fun ctv doc h' tk hx hsz => ?_
    have hfn : upd H t (DefO t i) h'.objs.size = none := I0.hok.fresh hsz
    have n3 : h'.objs.size ≠ t := by omega
    have hco' := at0 _ _ hco
    have n1 : h'.objs.size ≠ c' := fun z => by rw [z, hco'] at hfn; cases hfn
    have n4 : t ≠ c' := fun z => by rw [z, hco] at htn; cases htn
    have I1 : Inv X pins σ (upd H t (DefO t i)) { s0 with heap := h', toks := tk } := I0.kept fun b o e => hx b o e
    have I2 : Inv X pins σ (upd (upd H t (DefO t i)) h'.objs.size (LamDO X.env.cells (X.env.qual ++ "<lambda>") Ψ h'.objs.size c' t))
        { s0 with heap := h'.push (PySem.W.kdv_obj "<lambda>" (X.env.qual ++ "<lambda>") ⟨[], [x], none, [], [], none, [.Constant (.int i) j pp]⟩ (.expr body) scope (cloFrom X.env.cells scope.names []) (.ref t) doc ((X.mg "__name__").getD .none) c' ctv), toks := tk } :=
      I1.laid (t' := tk) (fun b o e => Heap.get?_push_of_some _ e) (Nat.le_refl _) (lamDO_new (Heap.get?_push_size _ rfl) hΨ)
    have le : ∀ b o, H b = some o → upd (upd H t (DefO t i)) h'.objs.size (LamDO X.env.cells (X.env.qual ++ "<lambda>") Ψ h'.objs.size c' t) b = some o := fun b o e => by
      have e0 := at0 b o e
      rw [upd_ne (ne_of_none e0 hfn)]; exact e0
    have hfH : H h'.objs.size = none := by rw [upd_ne n3] at hfn; exact hfn
    refine h h'.objs.size c' t _ _ I2 ⟨fun b o e _ => le b o e, fun b o e z => ⟨o, le b o e, z⟩, hT0.ext le, le _ _ hco, hfH, htn, upd_same, by rw [upd_ne n3.symm, upd_same], ⟨n3, n1, n4⟩, fun b o e => ?_⟩
    by_cases z1 : b = h'.objs.size
    · exact .inl z1
    · by_cases z4 : b = t
      · exact .inr (.inl z4)
      · right; right; right
        rw [upd_ne z1, upd_ne z4] at e; rw [e]; simp

theorem lam_startD {A : Around} {outer : List Env} {E : XK} {scope : Scope} {f c' : Addr} {h₁ : Heap} {tk : Nat} {a : Str} {u : Value} (I : Inv X pins σ H s) (L : LamD X.env.scope scope a) (hN : ∀ (j : Nat) (y : Str), X.N[j]? = some y → y ≠ a) (e0 : Env0 X.prog X.w X.K X.mg X.base A outer s1 HZ) (hd : A.handled = none)
    (un : Un (frs X.stack) [] H HZ s.heap s1.heap) (hns : h₁.Ns s1.heap.objs.size fun y => ([(a, u)] : List (Str × Value)).reverse.lookup y) (kp : ∀ b o, s1.heap.get? b = some o → h₁.get? b = some o) :
    Inv (LamX.lamCx X A outer s1 HZ E scope f c') [] σ HZ { s1 with heap := h₁, toks := tk } := by
  have hfree := L.has I.ok
  have cm : ∀ {y c}, (cloFrom X.env.cells scope.names []).lookup y = some c → X.env.cells.lookup y = some c := fun {y c} e => by
    rcases cloFrom_mem (PySem.mem_of_lookup e) with hm | ⟨h1, h2⟩
    · cases hm
    · obtain ⟨c1, hc⟩ := hfree _ h1 rfl
      have hc : X.env.cells.lookup y = some c1 := hc
      have e2 : c = c1 := by
        rw [h2, hc] <;> rfl
      rw [e2]
      exact hc
  have look : ∀ {y}, scope.names.lookup y = some .free → ∃ c, (cloFrom X.env.cells scope.names []).lookup y = some c := fun {y} hl => by
    have hy : (y, NameKind.free) ∈ scope.names := PySem.mem_of_lookup hl
    exact mem_lookup (cloFrom_has (cells := X.env.cells) (acc := []) hy)
  have cellK : ∀ {c : Addr} {v : Option Value}, H c = none → s.heap.IsCell c v → h₁.IsCell c v := fun {c v} n ⟨o, ho, hd⟩ => by
    obtain ⟨sl, q⟩ := un.any ho n (by simp)
    exact ⟨_, kp _ _ q, hd⟩
  have noA : ∀ b : Addr, b ∉ (LamX.lamCx X A outer s1 HZ E scope f c').ex := fun b z => absurd (show b ∈ ([] : List Addr) from z) (by simp)
  refine ⟨⟨e0.mod, L.kind, rfl, rfl, Nat.le_refl _, fun y z c e1 e2 => I.ok.inj y z c (cm e1) (cm e2), fun y hy => ?_, fun y c z _ => ?_, fun _ => hd, Around.frames_deeper e0.frames, .inr ⟨rfl, rfl⟩, fun b z => absurd z (noA b), e0.bs, e0.bsz, fun b _ _ => noA b,
      fun b z => absurd z (noA b), e0.funs, e0.frf⟩,
    rfl, e0.bare, Un.kept kp, ⟨_, hns, fun i y v e1 e2 e3 => ?_⟩, fun y c e => ?_, e0.hok.fresh (Nat.le_refl _), fun y c e => ?_, fun q hq => absurd (show q ∈ ([] : List (Addr × Obj)) ++ [] from hq) (by simp), e0.hok.kept kp, I.len⟩
  · have hy : scope.names.lookup y = some .cell ∨ scope.names.lookup y = some .free := hy
    rcases hy with hy | hy
    · exact absurd rfl (L.own _ (PySem.mem_of_lookup hy)).2
    · exact look hy
  · have z : false = true := z
    cases z
  · have e3 : Vis scope y := e3
    rcases e3 with k | k | k
    · exact absurd ((L.own _ (PySem.mem_of_lookup k)).1 rfl) (hN i y e1)
    · exact absurd rfl (L.own _ (PySem.mem_of_lookup k)).2
    · obtain ⟨m, hn, hl⟩ := I.loc
      have hvis : Vis X.env.scope y := (L.free _ (PySem.mem_of_lookup k) rfl).elim (fun k => .inr (.inl k)) (fun k => .inr (.inr k))
      obtain ⟨w', r, q⟩ := hl i y v e1 e2 hvis
      obtain ⟨c2, h2⟩ := look k
      refine ⟨w', r, .inr ⟨.inr k, c2, h2, ?_⟩⟩
      have c1 := cm h2
      rcases q with ⟨k', _⟩ | ⟨_, c3, e', z⟩
      · have k' : X.env.scope.names.lookup y = some .local := k'
        rcases L.free _ (PySem.mem_of_lookup k) rfl with k2 | k2 <;> rw [show X.env.scope.names.lookup y = _ from k2] at k' <;> cases k'
      · rw [c1] at e'
        cases e'
        exact cellK (I.freeC y _ c1) z
  · obtain ⟨w', z⟩ := I.cell y c (cm e)
    exact ⟨w', cellK (I.freeC y c (cm e)) z⟩
  · obtain ⟨v, o, ho, hd⟩ := I.cell y c (cm e)
    exact un.free c o ho (I.freeC y c (cm e)) (by simp)
theorem kdv_bindsD {s : Shared} {x : Arg} {i : Int} {j : Nat} {pp : Pos} {qual : Str} {body : Expr} {scope : Scope} {cl : List (Str × Addr)} {t c' : Addr} {doc pm ctv : Value} {tk : Tok} (h : s.heap.get? t = some (PySem.W.kdv_tup [.int i tk])) :
    BindsTo s (PySem.W.kdv_fn "<lambda>" qual ⟨[], [x], none, [], [], none, [.Constant (.int i) j pp]⟩ (.expr body) scope cl (.ref t) doc pm (.ref c') ctv) ⟨[], []⟩ [(x.arg, .int i tk)] := by
  refine BindsTo.of_defaults rfl h rfl rfl ?_
  have e : (x.arg == x.arg) = true := beq_self_eq_true _
  simp [List.lookup, e]
/-- x(), in the def that got the lambda -/
theorem pe_actD {CXg : CXT} {Eg : XK} {Ng : List Str} {qg : Str} {sg : Scope} {g f c' t : Addr} {cdg : Value} {Ψ : Arguments → Expr → Scope → Prop} {i : Int} {k ix : Nat} {a : Str} {pn : List (Addr × Obj)} {xe : Value → Shared → Prop} {W : WX} {E : XK} {p1 p2 : Pos}
    (I : Inv X pins σ H s)
    (hΨ : ∀ pa z sc', Ψ pa z sc' → ∃ a, paramsD pa = some (a, i) ∧ LamD X.env.scope sc' a ∧ ∀ (j : Nat) (y : Str), X.N[j]? = some y → y ≠ a)
    (tk : Takes ((cxOf CXg X.prog X.w X.K X.mg X.base Ng qg sg g cdg X.A X.stack s H Eg).tr pn xe) W) (hW : ∀ cls d σ' H', E cls d H' → W cls d σ' H') (hr : Room (k + 1) (X.A.deeper (envOfC qg sg s.heap.objs.size g cdg)))
    (hN : Ng[ix]? = some a) (hv : Vis sg a) (hd : (a == ("__debug__" : Str)) = false) (hcd : (a == ("__classdict__" : Str)) = false) :
    PE ((cxOf CXg X.prog X.w X.K X.mg X.base Ng qg sg g cdg X.A X.stack s H Eg).tr pn xe) (.Call (.Name a p1) [] [] p2)
      (fun σZ HZ Q => σZ[ix]? = some (some (.ref f)) ∧ HZ c' = some (LamX.CodeO c' (X.env.qual ++ "<lambda>")) ∧ (HZ f = some (LamDO X.env.cells (X.env.qual ++ "<lambda>") Ψ f c' t) ∧ HZ t = some (DefO t i) ∧
        ∀ pa z sc', Ψ pa z sc' → ∃ tb : TE, (∀ (A : Around) (outer : List Env) (s : Shared) (H : Hp), Room k (A.deeper (LamX.lamEnv X sc' s.heap.objs.size f c')) → PE (LamX.lamCx X A outer s H E sc' f c') z tb) ∧ tb σ HZ Q)) := by
  refine ⟨fun pinsZ sZ σZ HZ Q IZ h => ?_⟩
  obtain ⟨hs, hc, hf, ht, hb⟩ := h
  refine wpAny_Call_Name_kw (thn ((pe_var (pos := p1) (i := ix) hN hv hd hcd).run pinsZ sZ σZ HZ (fun v H1 => v = .ref f ∧ H1 = HZ) IZ ⟨.ref f, hs, rfl, rfl⟩) fun u s1 ⟨v, H1, I1, r1, q1⟩ => ?_)
  obtain ⟨ev, eH⟩ := q1
  subst ev
  rw [eH] at I1
  obtain rfl : u = Value.ref f := r1
  obtain ⟨⟨pa, z, sc', pm, doc, ctv, of1, hz⟩, _, _⟩ := I1.hok f _ hf
  obtain ⟨⟨tkd, ot⟩, _, _⟩ := I1.hok t _ ht
  obtain ⟨⟨oc, vs, tq, hoc, hdc, hvc⟩, _, _⟩ := I1.hok c' _ hc
  obtain ⟨y, hpa, L, hNy⟩ := hΨ pa z sc' hz
  obtain ⟨x, j, pp, rfl, rfl⟩ := paramsD_of hpa
  obtain ⟨tb, hbody, htb⟩ := hb _ z sc' hz
  refine PySem.W.callWith_F0 ⟨_, _, _, _, of1⟩ ?_
  have un : Un (frs X.stack) [] H HZ s.heap s1.heap := I1.base
  have rc : codeAny (model X.prog X.w) (X.A.deeper (envOfC qg sg s.heap.objs.size g cdg)) (.call (.ref f) ⟨[], []⟩) (CR (L2.CX X.prog X.w) (envOfC qg sg s.heap.objs.size g cdg :: X.stack) X.prog X.w HZ s1 Q E) s1 := by
    refine PySem.W.kla_callFunE hr.depth of1 rfl L.co L.gen rfl ⟨c', oc, vs, tq, rfl, hoc, hdc, hvc⟩ ?_
    refine kdv_bindsD ot _ _ _ _ ?_
    refine wpAny_newFunctionEnv (fun y hy => (L.own y hy).2) (fun y hy => by rw [List.mem_singleton.mp hy]; exact L.par) (fun h₁ hns hsb => ⟨I1.nolimit.fresh _ hsb, ?_⟩) L.kind
    show codeAny _ _ (.expr z (LamX.lamEnv X sc' s1.heap.objs.size f c')) _ _
    have kp : ∀ b o, s1.heap.get? b = some o → h₁.get? b = some o := fun b o e => hsb.extBut b o (Nat.ne_of_lt (Heap.lt_size e)) (Heap.get?_push_of_some _ e)
    have J : Inv (LamX.lamCx X (X.A.deeper (envOfC qg sg s.heap.objs.size g cdg)) (envOfC qg sg s.heap.objs.size g cdg :: X.stack) s1 HZ E sc' f c') [] σ HZ { s1 with heap := h₁, toks := s1.toks + ([(x.arg, Value.int i tkd)] : List (Str × Value)).length } :=
      lam_startD I L hNy I1.env0 hr.hd un hns kp
    refine PySem.W.kla_codeExpr (wpAny_mono ((hbody _ _ s1 HZ (hr.deeper _)).run [] _ _ HZ Q J htb) (fun v s' hq => ?_) fun e s' hq => hq)
    obtain ⟨w', H', J', rv, q⟩ := hq
    exact ⟨w', H', J'.os, J'.bare, J'.base, J'.hok, rv, q⟩
  have hx : Passes (L2.CX X.prog X.w) ((cxOf CXg X.prog X.w X.K X.mg X.base Ng qg sg g cdg X.A X.stack s H Eg).tr pn xe) E := passes_call tk hW
  refine wpAny_call (codeAny_mono rc fun r s' hq => ?_)
  cases r with
  | error e => exact hx pinsZ σZ HZ s1 e s' I1 hq
  | ok fl =>
    cases fl with
    | ret u => exact I1.after hq
    | next => exact False.elim hq
    | brk => exact False.elim hq
    | cont => exact False.elim hq
end
section
variable {X : Cx}
/-- x(v): the promised def gets such a lambda -/
theorem pe_tellv {TT : (XK → Hp → VK → Prop) → Hp → VK → Prop} {x a v : Str} {g : Addr} {k iv : Nat} {pg : Arguments} {bg : List Stmt} {sg : Scope} {dV kV doc pm cdv ct oc : Value} {an od : Option Addr} {osl : Array (Option Value)} {Ng : List Str}
    {p vp pos : Pos} (hg : Gl X x) (hm : X.mg x = some (.ref g)) (hk : PySem.W.keepIn X.K (.ref g) = true)
    (lk : X.K.lookup g = some ⟨oc, od, .func (PySem.W.fnOf x x pg bg sg dV kV doc pm an cdv ct), osl⟩) (hcg : PySem.W.codeIn X.K cdv x = true) (hb : L2.Binds X.K (PySem.W.fnOf x x pg bg sg dV kV doc pm an cdv ct) [a] []) (Sg : FnScope Ng [a] sg) (hNg : Ng[0]? = some a) (hva : Vis sg a)
    (hG : LamX.GivesTo X Ng x sg g cdv bg a (X.env.qual ++ "<lambda>") TT) (hr : Room (k + 2) X.A)
    (hv1 : X.N[iv]? = some v) (hv2 : Vis X.env.scope v) (hv3 : (v == ("__debug__" : Str)) = false) (hv4 : (v == ("__classdict__" : Str)) = false)
    (hdb : (x == ("__debug__" : Str)) = false) (hd : (a == ("__debug__" : Str)) = false) (hcd : (a == ("__classdict__" : Str)) = false) :
    PE X (.Call (.Name x p) [.Name v vp] [] pos) (fun σ H Q => ∃ (f c' t : Addr) (i : Int) (Ψ : Arguments → Expr → Scope → Prop), σ[iv]? = some (some (.ref f)) ∧ H c' = some (LamX.CodeO c' (X.env.qual ++ "<lambda>")) ∧
      (∀ pa z sc', Ψ pa z sc' → ∃ a, paramsD pa = some (a, i) ∧ LamD X.env.scope sc' a ∧ ∀ (j : Nat) (y : Str), X.N[j]? = some y → y ≠ a) ∧
      TT (fun E HZ Q' => HZ f = some (LamDO X.env.cells (X.env.qual ++ "<lambda>") Ψ f c' t) ∧ HZ t = some (DefO t i) ∧
        ∀ pa z sc', Ψ pa z sc' → ∃ tb : TE, (∀ (A : Around) (outer : List Env) (s : Shared) (H : Hp), Room k (A.deeper (LamX.lamEnv X sc' s.heap.objs.size f c')) → PE (LamX.lamCx X A outer s H E sc' f c') z tb) ∧ tb σ HZ Q') H Q) := by
  refine ⟨fun pins s σ H Q I h => ?_⟩
  obtain ⟨f, c', t, i, Ψ, hs, hc, hΨ, htt⟩ := h
  refine wpAny_Call_Name_kw (ld_glob I hg hm ?_ hdb)
  refine PySem.W.callWith_K (h₀ := X.base) I.ok.mod.kin hk ?_ (by rfl) (by rfl)
  show wpAny _ _ (spliced ((false, eval (.Name v vp) X.env) :: backTo pos (starEach [] X.env))) _ _ s
  refine Calls.spliced_cons (thn ((pe_var (pos := vp) (i := iv) hv1 hv2 hv3 hv4).run pins s σ H (fun v H1 => v = .ref f ∧ H1 = H) I ⟨.ref f, hs, rfl, rfl⟩) fun u s1 ⟨v', H1, I1, r1, q1⟩ => ?_)
  obtain ⟨e1, eH⟩ := q1
  subst e1
  rw [eH] at I1
  obtain rfl : u = Value.ref f := r1
  refine Calls.spliced_nil ⟨I1.kIn, ?_⟩
  have rc : codeAny (model X.prog X.w) X.A (.call (.ref g) ⟨[.ref f], []⟩) (CR C8.CX0 X.stack X.prog X.w H s1 Q C8.E0) s1 := by
    refine LamX.run_ofS (N := Ng) (ps := [a]) (us := [.ref f]) (vs := [.ref f]) lk hcg Sg hr I1.env0 (hb s1 [.ref f] I1.kIn rfl) (.cons rfl .nil) rfl fun hr' => ?_
    obtain ⟨t', ht', hq'⟩ := hG f c' s1 H Q _ (fun W pn xe E p1 p2 tk hW => pe_actD (ix := 0) (t := t) I1 hΨ tk hW hr' hNg hva hd hcd) hc htt
    exact ⟨t', ht'.nox, hq'⟩
  refine wpAny_call (codeAny_mono rc fun r s2 hq => ?_)
  cases r with
  | error e => exact (show False from hq).elim
  | ok fl =>
    cases fl with
    | ret u => exact I1.after hq
    | next => exact False.elim hq
    | brk => exact False.elim hq
    | cont => exact False.elim hq
end
end DI
set_option Elab.async false
set_option linter.all false
set_option maxRecDepth 100000
/-! Sb: the readings of expressions against what the small language computes. -/
namespace DI
open PySem PySem.Spec PyProof.Rows
open L2 hiding ixN

/-- c: data of the frozen part; b: borrowed, a list or dict of the frame's own; n: new, or no list and no dict -/
inductive Kd where | c | b | n
def isL : D → Bool
  | .lst _ => true
  | .dic _ => true
  | _ => false
section
variable (W : Wd) (R : Addr)
def LstAt (H F' H' : Hp) (old : Bool) (v : V) (d : D) : Prop :=
  (∃ p xs ds, v = .ref p ∧ d = .lst ds ∧ H' p = some (.lst xs) ∧ xs.length ≤ sizeLine ∧ p ≠ R ∧ Reps W R F' xs ds ∧ F' p = none ∧ (old = false → H p = none)) ∨
  (∃ p xs ds, v = .ref p ∧ d = .dic ds ∧ H' p = some (.dK xs) ∧ xs.length ≤ sizeLine ∧ p ≠ R ∧ RepKV W R F' xs ds ∧ F' p = none ∧ (old = false → H p = none))
def PK : Kd → Hp → Hp → Hp → V → D → Prop
  | .c, _, F', _, v, d => Rep W R F' v d
  | .b, H, F', H', v, d => Rep W R F' v d ∨ LstAt W R H F' H' true v d
  | .n, H, F', H', v, d => (Rep W R F' v d ∧ isL d = false) ∨ LstAt W R H F' H' false v d
end
section
variable {W : Wd} {R : Addr} {F F1 F' F2 H H1 H' H2 H0 : Hp} {v : V} {d : D} {k : Kd} {Ex : XK} {old : Bool}
theorem LstAt.from_ (g : Kept R H H1) (h : LstAt W R H1 F' H' old v d) : LstAt W R H F' H' old v d := by
  rcases h with ⟨p, xs, ds, a, b, c, d, e, f, i, j⟩ | ⟨p, xs, ds, a, b, c, d, e, f, i, j⟩
  · exact .inl ⟨p, xs, ds, a, b, c, d, e, f, i, fun q => g.gone (j q)⟩
  · exact .inr ⟨p, xs, ds, a, b, c, d, e, f, i, fun q => g.gone (j q)⟩
theorem Grow.stays (g : Grow R F H F' H') {a : Addr} {u : HO} (h1 : F a = .none) (h2 : H a = some u) : F' a = .none := by
  cases q : F' a with
  | none => rfl
  | some z => rw [g.new a h1 (by rw [q]; simp)] at h2; cases h2
theorem LstAt.grow (g : Grow R F' H' F2 H2) (h : LstAt W R H F' H' old v d) : LstAt W R H F2 H2 old v d := by
  rcases h with ⟨p, xs, ds, a, b, c, d, e, f, i, j⟩ | ⟨p, xs, ds, a, b, c, d, e, f, i, j⟩
  · exact .inl ⟨p, xs, ds, a, b, g.kept.at_ c e nt_lst, d, e, f.mono g.le, g.stays i c, j⟩
  · exact .inr ⟨p, xs, ds, a, b, g.kept.at_ c e nt_dK, d, e, f.mono g.le, g.stays i c, j⟩
theorem PK.from_ (g : Kept R H H1) (h : PK W R k H1 F' H' v d) : PK W R k H F' H' v d := by
  cases k with
  | c => exact h
  | b => exact h.imp id (·.from_ g)
  | n => exact h.imp id (·.from_ g)
theorem PK.grow (g : Grow R F' H' F2 H2) (h : PK W R k H F' H' v d) : PK W R k H F2 H2 v d := by
  cases k with
  | c => exact Rep.mono g.le h
  | b => exact h.imp (Rep.mono g.le) (·.grow g)
  | n => exact h.imp (fun q => ⟨q.1.mono g.le, q.2⟩) (·.grow g)
theorem PK.toB (h : PK W R k H F' H' v d) : PK W R .b H F' H' v d := by
  cases k with
  | c => exact .inl h
  | b => exact h
  | n => exact h.imp (·.1) fun q => q.imp (fun ⟨p, xs, ds, a, b, c, d, e, f, i, j⟩ => ⟨p, xs, ds, a, b, c, d, e, f, i, fun z => nomatch z⟩) (fun ⟨p, xs, ds, a, b, c, d, e, f, i, j⟩ => ⟨p, xs, ds, a, b, c, d, e, f, i, fun z => nomatch z⟩)

variable (W R) in
def PostE (Ex : XK) (k : Kd) (F H : Hp) (Q : VK) : Rs D → Prop
  | .stuck => False
  | .ok d r' => ∀ v F' H', Good W R F' H' r' → Grow R F H F' H' → PK W R k H F' H' v d → Q v H'
  | .exc x r' => ∀ cls dd F' H', Good W R F' H' r' → Grow R F H F' H' → RepX W R F' cls dd x → Ex cls dd H'
theorem PostE.grow {Q : VK} {res : Rs D} (g : Grow R F H F1 H1) (h : PostE W R Ex k F H Q res) : PostE W R Ex k F1 H1 Q res := by
  cases res with
  | stuck => exact h
  | ok d r => exact fun v F' H' a b c => h v F' H' a (g.trans b) (c.from_ g.kept)
  | exc x r => exact fun cls dd F' H' a b c => h cls dd F' H' a (g.trans b) c
/-- a new list, a new dict goes into the frozen part -/
theorem PostE.n_c {Q : VK} {res : Rs D} (h : PostE W R Ex .c F H Q res) : PostE W R Ex .n F H Q res := by
  cases res with
  | stuck => exact h
  | exc x r => exact h
  | ok d r =>
    intro v F' H' G g p
    rcases p with ⟨p, _⟩ | ⟨p, xs, ds, rfl, rfl, e1, l, nR, rs, nF, nH⟩ | ⟨p, xs, ds, rfl, rfl, e1, l, nR, rs, nF, nH⟩
    · exact h v F' H' G g p
    · have e : Le F' (upd F' p (.lst xs)) := fun b o q => by rw [upd_ne (ne_of_none q nF)]; exact q
      refine h (.ref p) (upd F' p (.lst xs)) H' ⟨fun b o q => ?_, by rw [upd_ne nR.symm]; exact G.fR, fun b o q => ?_, G.row.mono e, G.tabs, fun c q hc => upd_some (G.cod c q hc)⟩ ⟨g.le.trans e, g.kept, fun b q1 q2 => ?_⟩ (.lst upd_same l (rs.mono e))
      · by_cases hb : b = p
        · rw [hb, upd_same] at q; rw [hb, e1]; exact q
        · rw [upd_ne hb] at q; exact G.le _ _ q
      · by_cases hb : b = p
        · rw [hb, upd_same] at q; cases q; exact nt_lst
        · rw [upd_ne hb] at q; exact G.ft _ _ q
      · by_cases hb : b = p
        · rw [hb]; exact nH rfl
        · rw [upd_ne hb] at q2; exact g.new b q1 q2
    · have e : Le F' (upd F' p (.dK xs)) := fun b o q => by rw [upd_ne (ne_of_none q nF)]; exact q
      refine h (.ref p) (upd F' p (.dK xs)) H' ⟨fun b o q => ?_, by rw [upd_ne nR.symm]; exact G.fR, fun b o q => ?_, G.row.mono e, G.tabs, fun c q hc => upd_some (G.cod c q hc)⟩ ⟨g.le.trans e, g.kept, fun b q1 q2 => ?_⟩ (.dic upd_same l (rs.mono e))
      · by_cases hb : b = p
        · rw [hb, upd_same] at q; rw [hb, e1]; exact q
        · rw [upd_ne hb] at q; exact G.le _ _ q
      · by_cases hb : b = p
        · rw [hb, upd_same] at q; cases q; exact nt_dK
        · rw [upd_ne hb] at q; exact G.ft _ _ q
      · by_cases hb : b = p
        · rw [hb]; exact nH rfl
        · rw [upd_ne hb] at q2; exact g.new b q1 q2
theorem PostE.c_b {Q : VK} {res : Rs D} (h : PostE W R Ex .b F H Q res) : PostE W R Ex .c F H Q res := by
  cases res with
  | stuck => exact h
  | exc x r => exact h
  | ok d r => exact fun v F' H' a b c => h v F' H' a b (.inl c)

/-- the reading t is met wherever the end is right of what f computes -/
def Sat (W : Wd) (R : Addr) (Ex : XK) (k : Kd) (t : TE) (f : St → Rho → Rs D) : Prop := ∀ (H0 F H : Hp) (σV : L2.St) (σ : St) (r : Rho) (Q : VK),
  Good W R F H r → StOk W R H0 F H σV σ → PostE W R Ex k F H Q (f σ r) → t σV H Q
theorem Sat.c {t : TE} {f : St → Rho → Rs D} (h : Sat W R Ex .n t f) : Sat W R Ex .c t f := fun H0 F H σV σ r Q G S p => h H0 F H σV σ r Q G S p.n_c
theorem Sat.b {t : TE} {f : St → Rho → Rs D} (h : Sat W R Ex .c t f) : Sat W R Ex .b t f := fun H0 F H σV σ r Q G S p => h H0 F H σV σ r Q G S p.c_b
theorem Sat.toB {t : TE} {f : St → Rho → Rs D} (h : Sat W R Ex k t f) : Sat W R Ex .b t f := by
  cases k with
  | c => exact h.b
  | b => exact h
  | n => exact h.c.b
theorem Sat.toC {t : TE} {f : St → Rho → Rs D} (hk : k ≠ .b) (h : Sat W R Ex k t f) : Sat W R Ex .c t f := by
  cases k with
  | c => exact h
  | b => exact absurd rfl hk
  | n => exact h.c

/-! ### putting readings together -/
/-- what follows one evaluation -/
theorem Sat.then_ {t : TE} {f : St → Rho → Rs D} {k : Kd} (h : Sat W R Ex k t f) {F H : Hp} {σV : L2.St} {σ : St} {r : Rho} (G : Good W R F H r) (S : StOk W R H0 F H σV σ) {α : Type} {K : D → Rho → Rs α} {Post : Rs α → Prop} {Q : VK}
    (hs : ¬ Post .stuck) (hx : ∀ x r', Post (.exc x r') → ∀ cls dd F' H', Good W R F' H' r' → Grow R F H F' H' → RepX W R F' cls dd x → Ex cls dd H')
    (p : Post ((f σ r).bind K)) (q : ∀ d r' v F' H', Good W R F' H' r' → Grow R F H F' H' → StOk W R H0 F' H' σV σ → PK W R k H F' H' v d → Post (K d r') → Q v H') : t σV H Q := by
  refine h H0 F H σV σ r Q G S ?_
  cases e : f σ r with
  | stuck => rw [e] at p; exact absurd p hs
  | ok d r' => rw [e] at p; exact fun v F' H' a b c => q d r' v F' H' a b (S.grow b) c p
  | exc x r' => rw [e] at p; exact hx x r' p
theorem PostE.x {k : Kd} {Q : VK} : ∀ x r', PostE W R Ex k F H Q (.exc x r') → ∀ cls dd F' H', Good W R F' H' r' → Grow R F H F' H' → RepX W R F' cls dd x → Ex cls dd H' := fun _ _ h => h
theorem PostE.s {k : Kd} {Q : VK} : ¬ PostE W R Ex k F H Q .stuck := fun h => h
theorem sat_const {v : V} {d : D} (h : ∀ F : Hp, Rep W R F v d) (hl : isL d = false) : Sat W R Ex .n (tC v) (fun _ r => .ok d r) := fun H0 F H σV σ r Q G S p => p v F H G (.refl _ _ _) (.inl ⟨h F, hl⟩)
/-- a two-place operation -/
theorem sat_bin {ta tb : TE} {fa fb : St → Rho → Rs D} {ka kb k : Kd} {rr : R2} {g : D → D → Rho → Rs D} (ha : Sat W R Ex ka ta fa) (hb : Sat W R Ex kb tb fb)
    (hr : ∀ (F H : Hp) (r : Rho) (Q : VK) (x y : V) (dx dy : D), Good W R F H r → PK W R .b H F H x dx → PK W R .b H F H y dy → PostE W R Ex k F H Q (g dx dy r) → rr x y H Q) :
    Sat W R Ex k (tOp rr ta tb) (fun σ r => (fa σ r).bind fun x r => (fb σ r).bind fun y r => g x y r) := by
  intro H0 F H σV σ r Q G S p
  refine ha.toB.then_ G S PostE.s PostE.x p fun dx r1 x F1 H1 G1 g1 S1 p1 q1 => ?_
  refine hb.toB.then_ G1 S1 PostE.s PostE.x (q1.grow g1) fun dy r2 y F2 H2 G2 g2 S2 p2 q2 => ?_
  refine hr F2 H2 r2 Q x y dx dy G2 ?_ ?_ (q2.grow g2)
  · refine (p1.grow g2).imp id fun z => ?_
    rcases z with ⟨p, xs, ds, a, b, c, d, e, f, i, j⟩ | ⟨p, xs, ds, a, b, c, d, e, f, i, j⟩
    · exact .inl ⟨p, xs, ds, a, b, c, d, e, f, i, fun z => nomatch z⟩
    · exact .inr ⟨p, xs, ds, a, b, c, d, e, f, i, fun z => nomatch z⟩
  · refine p2.imp id fun z => ?_
    rcases z with ⟨p, xs, ds, a, b, c, d, e, f, i, j⟩ | ⟨p, xs, ds, a, b, c, d, e, f, i, j⟩
    · exact .inl ⟨p, xs, ds, a, b, c, d, e, f, i, fun z => nomatch z⟩
    · exact .inr ⟨p, xs, ds, a, b, c, d, e, f, i, fun z => nomatch z⟩
end
end DI
set_option Elab.async false
set_option linter.all false
set_option maxRecDepth 100000
/-! Sc: the text held against the small language. -/
namespace DI
open PySem PySem.Spec PyProof.Rows
open L2 hiding ixN

/-- a block's names: by slot; its scope; the names whose cells are its own -/
structure SC where
  N : List Str
  sc : Scope
  fn : Str → Bool
  qual : Str
  lam : Bool
  /-- within an except suite -/
  hot : Bool
  /-- no repr runs outside -/
  top : Bool
  /-- the law's own lambdas may be made, told -/
  lls : Bool
def nameOk (x : Str) : Bool := !(x == ("__debug__" : Str)) && !(x == ("__classdict__" : Str)) && !(x == ("__name__" : Str))
def visK : Option NameKind → Bool
  | some .local => true
  | some .cell => true
  | some .free => true
  | _ => false
def locK : Option NameKind → Bool
  | some .local => true
  | some .cell => true
  | _ => false
def visB (c : SC) (x : Str) (i : Nat) : Bool := decide (c.N[i]? = some x) && (visK (c.sc.names.lookup x) && nameOk x)
def locB (c : SC) (x : Str) (i : Nat) : Bool := decide (c.N[i]? = some x) && (locK (c.sc.names.lookup x) && (c.fn x || decide (c.sc.names.lookup x = some .local)))
def glB (c : SC) (x : Str) : Bool := decide (c.sc.names.lookup x = some .globalImplicit) && nameOk x
def notStar : Expr → Bool
  | .Starred _ _ => false
  | _ => true
def notSlice : Expr → Bool
  | .Slice _ _ _ _ => false
  | _ => true
/-- not super() -/
def plainBase : Expr → Bool
  | .Call (.Name _ _) [] [] _ => false
  | _ => true
def notComp : Expr → Bool
  | .ListComp _ _ _ _ => false
  | .SetComp _ _ _ _ => false
  | .DictComp _ _ _ _ _ => false
  | _ => true
def notTup : Expr → Bool
  | .Tuple _ _ _ => false
  | .List _ _ => false
  | _ => true
def notSet : Expr → Bool
  | .Set _ _ _ => false
  | _ => true
def plainTest : Expr → Bool
  | .UnaryOp .Not _ _ => false
  | .BoolOp _ _ _ => false
  | .IfExp _ _ _ _ => false
  | .Compare _ _ _ _ => false
  | _ => true
def opO : Op → Operator
  | .add => .Add | .sub => .Sub | .mul => .Mult | .mod => .Mod | .fdiv => .FloorDiv | .pow => .Pow
def cmpO : Cmp → CmpOp
  | .eq => .Eq | .ne => .NotEq | .lt => .Lt | .le => .LtE | .gt => .Gt | .ge => .GtE | .is => .Is | .isnt => .IsNot
def biN : Bi → Str
  | .len => "len" | .list => "list" | .tuple => "tuple" | .all => "all" | .any => "any" | .sum => "sum" | .max2 => "max" | .min2 => "min" | .int => "int" | .str => "str" | .sorted => "sorted" | .lenset => "len" | .dict => "dict" | .max1 => "max" | .min1 => "min" | .repr => "repr" | .lenum => "list" | .lzip => "list" | .sortset => "sorted" | .lrng2 => "list" | .lrng3 => "list"
/-- what is called within: len(set(..)), sorted(set(..)), list(enumerate(..)), list(zip(..)) -/
def bi2 : Bi → Option Str
  | .lenset => some "set" | .sortset => some "set" | .lenum => some "enumerate" | .lzip => some "zip" | .lrng2 => some "range" | .lrng3 => some "range" | _ => none
def biA : Bi → Nat
  | .lzip => 1 | .lrng2 => 1 | .lrng3 => 2
  | _ => 0
def inArg (y : Str) : Expr → Option (Expr × List Expr)
  | .Call (.Name z _) (a :: as) [] _ => if z = y then some (a, as) else none
  | _ => none
theorem inArg_of {y : Str} {x : Expr} {a : Expr × List Expr} (h : inArg y x = some a) : ∃ p q, x = .Call (.Name y p) (a.1 :: a.2) [] q := by
  unfold inArg at h
  split at h
  · split at h
    · rename_i e
      cases h
      subst e
      exact ⟨_, _, rfl⟩
    · cases h
  · cases h
def mtN : Mt → Str
  | .join => "join" | .count => "count" | .index => "index" | .get => "get" | .replace => "replace" | .split => "split"
def tyN : Ty → Option Str
  | .int => some "int" | .str => some "str" | .bool => some "bool" | .tuple => some "tuple" | .list => some "list" | .dict => some "dict" | .cls _ => none

inductive Ax where | e (x : Expr) | es (xs : List Expr) | i (x : Expr)
mutual
def chkT (c : SC) : Tg → Expr → Bool
  | .nm i, .Name x _ => locB c x i
  | .tup ts, .Tuple xs _ _ => chkTs c ts xs
  | _, _ => false
def chkTs (c : SC) : Tg → List Expr → Bool
  | .nil, [] => true
  | .cons t r, x :: xs => notStar x && (chkT c t x && chkTs c r xs)
  | _, _ => false
end
def tgIx : Tg → List Nat
  | .nm i => [i]
  | .tup t => tgIx t
  | .nil => []
  | .cons a r => tgIx a ++ tgIx r
def chkTy (c : SC) : List Ty → List Expr → Bool
  | [], [] => true
  | t :: ts, .Name x _ :: xs => glB c x && ((match tyN t with | some y => decide (x = y) | none => false) && chkTy c ts xs)
  | _, _ => false
def chkTyA (c : SC) (ts : List Ty) (t : Expr) : Bool := decide (0 < ts.length ∧ ts.length ≤ 10) && (match t with
  | .Tuple xs _ _ => chkTy c ts xs
  | t => chkTy c ts [t])
def blkSC (c : SC) (sc' : Scope) : SC := ⟨c.N, relS sc' c.sc, fun x => sc'.names.lookup x == some .cell, c.qual, c.lam, false, c.top, false⟩
/-- what asks for a target of several names -/
def needT : E → Bool
  | .enum _ => true | .zip _ _ => true | .zip3 _ _ _ => true | _ => false
/-- what stands only where a loop walks it -/
def isIt : E → Bool
  | .rng1 _ => true | .rng2 _ _ => true | .rng3 _ _ _ => true | .enum _ => true | .zip _ _ => true | .zip3 _ _ _ => true | _ => false
def axI (it : E) (x : Expr) : Ax := if isIt it then .i x else .e x
def isTup : Expr → Bool
  | .Tuple _ _ _ => true
  | _ => false
/-- what is left of an and, an or -/
def rst (o : BoolOp) (y : Expr) (r : List Expr) (pos : Pos) : Expr := match r with
  | [] => y
  | r => .BoolOp o (y :: r) pos
/-- a lambda's names: its parameters -/
def lamSC (ps : List Str) (sc : Scope) : Bool :=
  decide (sc.kind = .function) && (!sc.isCoroutine && (!sc.isGenerator && (decide ps.Nodup && (ps.all (fun x => decide (sc.names.lookup x = some .local)) && sc.names.all fun y => !decide (y.2 = .cell) && !decide (y.2 = .free)))))
def paramsB : Arguments → List Str → Bool
  | ⟨[], [⟨x, _, _⟩], none, [], [], none, []⟩, [a] => decide (x = a) && (decide (a = "held") || decide (a = "state"))
  | ⟨[], [⟨x, _, _⟩, ⟨y, _, _⟩], none, [], [], none, []⟩, [a, b] => decide (x = a) && (decide (y = b) && (decide (a = "row" ∧ b = "rows") || decide (a = "told" ∧ b = "place")))
  | _, _ => false
def lamSc (ps : List Str) (sc : Scope) : SC := ⟨ps, sc, fun _ => true, "", false, false, false, false⟩
/-- a display's keys and values in a row -/
def dfl : List (Option Expr) → List Expr → List Expr
  | some k :: ks, v :: vs => k :: v :: dfl ks vs
  | _, _ => []
def okP : List (Option Expr) → List Expr → Bool
  | [], [] => true
  | some _ :: ks, _ :: vs => okP ks vs
  | _, _ => false
/-- a lambda without parameters (but such as have a value of their own), of names of the maker's -/
def paramsT : Arguments → Bool
  | ⟨[], [], none, [], [], none, []⟩ => true
  | _ => false
def toldSc (c : SC) (sc : Scope) : SC := ⟨c.N, sc, fun _ => false, "", false, false, false, false⟩
/-- all told by x -/
def tellsX : E → Str → Bool
  | .nil, _ => true
  | .cons (.told y _ _) r, x => decide (x = y) && tellsX r x
  | _, _ => false
/-- the expression is what the text has -/
def chk : E → SC → Ax → Bool
  | .var i, c, .e (.Name x _) => visB c x i
  | .own i, c, .e (.Name x _) => visB c x i
  | .non, _, .e (.Constant .none _ _) => true
  | .bl b, _, .e (.Constant (.bool b') _ _) => b == b'
  | .int i, _, .e (.Constant (.int j) _ _) => decide (i = j)
  | .str x, _, .e (.Constant (.str y) _ _) => decide (x = y) && (decide (x.length ≤ 1000) && PyData.strOk x)
  | .glob x _, c, .e (.Name y _) => decide (x = y) && glB c y
  | .op o a b, c, .e (.BinOp x o' y _) => decide (opO o = o') && (chk a c (.e x) && chk b c (.e y))
  | .neg a, c, .e (.UnaryOp .USub x _) => chk a c (.e x)
  | .cmp o a b, c, .e (.Compare x [o'] [y] _) => decide (cmpO o = o') && (notSet y && (chk a c (.e x) && chk b c (.e y)))
  | .isin n a b, c, .e (.Compare x [o'] [y] _) => decide ((if n then CmpOp.NotIn else .In) = o') && (notSet y && (chk a c (.e x) && chk b c (.e y)))
  | .chain o p a b d, c, .e (.Compare x [o', p'] [y, z] _) => decide (cmpO o = o') && (decide (cmpO p = p') && (notSet z && (chk a c (.e x) && (chk b c (.e y) && chk d c (.e z)))))
  | .and a b, c, .e (.BoolOp .And (x :: y :: r) pos) => chk a c (.e x) && chk b c (.e (rst .And y r pos))
  | .or a b, c, .e (.BoolOp .Or (x :: y :: r) pos) => chk a c (.e x) && chk b c (.e (rst .Or y r pos))
  | .not a, c, .e (.UnaryOp .Not x _) => chk a c (.e x)
  | .ife t a b, c, .e (.IfExp u x y _) => chk t c (.e u) && (chk a c (.e x) && chk b c (.e y))
  | .nil, _, .es [] => true
  | .cons a r, c, .es (x :: xs) => notStar x && (chk a c (.e x) && chk r c (.es xs))
  | .tup es, c, .e (.Tuple xs _ _) => decide (xs.length ≤ 1000) && chk es c (.es xs)
  | .lst es, c, .e (.List xs _) => decide (xs.length ≤ 1000) && chk es c (.es xs)
  | .ix a i, c, .e (.Subscript x y _) => notSlice y && (chk a c (.e x) && chk i c (.e y))
  | .sl a lo hi, c, .e (.Subscript x (.Slice l h none _) _) => chk a c (.e x) && ((match lo, l with | some e, some x => chk e c (.e x) | none, none => true | _, _ => false) && (match hi, h with | some e, some x => chk e c (.e x) | none, none => true | _, _ => false))
  | .call x _ es, c, .e (.Call (.Name y _) (a :: as) [] _) => decide (x = y) && (glB c y && chk es c (.es (a :: as)))
  | .make x _ es, c, .e (.Call (.Name y _) (a :: as) [] _) => decide (x = y) && (glB c y && chk es c (.es (a :: as)))
  | .mcall m _ _ o es, c, .e (.Call (.Attribute x n p) (a :: as) [] q) => decide (m = n) && ((p.endLine == q.line) && (decide (as.length < 20) && (plainBase x && (chk o c (.e x) && chk es c (.es (a :: as))))))
  | .dsp es, c, .e (.Dict ks vs _) => okP ks vs && (decide (0 < ks.length ∧ ks.length ≤ 15) && chk es c (.es (dfl ks vs)))
  | .bi b es, c, .e (.Call (.Name y _) (a :: as) [] _) => decide (biN b = y) && (glB c y && (match bi2 b with
      | none => chk es c (.es (a :: as))
      | some z => as.isEmpty && (glB c z && (match inArg z a with
        | some (x, xs) => decide (xs.length = biA b) && chk es c (.es (x :: xs))
        | none => false))))
  | .mt m o es, c, .e (.Call (.Attribute x n p) (a :: as) [] q) => decide (mtN m = n) && ((p.endLine == q.line) && (decide (as.length < 20) && (plainBase x && (chk o c (.e x) && chk es c (.es (a :: as))))))
  | .isi a ts, c, .e (.Call (.Name y _) [x, t] [] _) => decide (y = "isinstance") && (glB c y && (notStar x && (chk a c (.e x) && chkTyA c ts t)))
  | .fld o _ _ f, c, .e (.Attribute x g _) => decide (f = g) && (plainBase x && chk o c (.e x))
  | .comp own tg it ifs elt, c, .e (.ListComp x [⟨t, i, fs, 0⟩] sc' _) => blkC c.N c.sc sc' own && ((own.map (·.2)).all (fun k => decide (k < c.N.length)) && ((tgIx tg).all (fun k => (own.map (·.2)).contains k) && ((!needT it || isTup t) && (notSet i && (chk it c (axI it i) && (chkT (blkSC c sc') tg t && (chk elt (blkSC c sc') (.e x) &&
      (match ifs, fs with | some e, [f] => chk e (blkSC c sc') (.e f) | none, [] => true | _, _ => false))))))))
  | .lam _ ps g, c, .e (.Lambda pa b sc' _) => c.lam && (lamSC ps sc' && (paramsB pa ps && chk g (lamSc ps sc') (.e b)))
  | .lcall i _ es, c, .e (.Call (.Name x _) (a :: as) [] _) => visB c x i && chk es c (.es (a :: as))
  | .rowi a j, c, .e (.Subscript x (.Constant (.int i) _ _) _) => decide (i = (j : Int)) && chk a c (.e x)
  | .rowlen a, c, .e (.Call (.Name y _) [.Subscript x (.Constant (.int i) _ _) _] [] _) => decide (y = "len") && (glB c y && (decide (i = 0) && chk a c (.e x)))
  | .rowix a i, c, .e (.Subscript (.Subscript x (.Constant (.int z) _ _) _) y _) => decide (z = 0) && (notSlice y && (chk a c (.e x) && chk i c (.e y)))
  | .iso a _ y, c, .e (.Call (.Name z _) [x, .Name y' _] [] _) => decide (z = "isinstance") && (glB c z && (notStar x && (chk a c (.e x) && (decide (y = y') && glB c y))))
  | .isx i _ _ y, c, .e (.Call (.Name z _) [.Name x _, .Name y' _] [] _) => c.hot && (decide (z = "isinstance") && (glB c z && (visB c x i && (decide (y = y') && glB c y))))
  | .xf i _ f, c, .e (.Attribute (.Name x _) g _) => c.hot && (decide (f = g) && visB c x i)
  | .rp a, c, .e (.Call (.Name y _) [x] [] _) => c.top && (decide (y = "repr") && (glB c y && (notStar x && chk a c (.e x))))
  | .gcall x _ es, c, .e (.Call (.Name y _) (a :: as) [] _) => c.top && (decide (x = y) && (glB c y && chk es c (.es (a :: as))))
  | .told x _ b, c, .e (.Call (.Name y _) [.Lambda pa e sc' _] [] _) => c.lam && (decide (x = y) && (glB c y && (paramsT pa && (LamX.lamSB c.sc sc' && chk b (toldSc c sc') (.e e)))))
  | .clam _ b, c, .e (.Lambda pa z sc' _) => c.lls && (c.lam && (match paramsD pa with
      | some (a, _) => lamDB c.sc sc' a && (!c.N.contains a && chk b (toldSc c sc') (.e z))
      | none => false))
  | .tells i j _ own bs, c, .e (.ListComp (.Call (.Name y _) [.Name v _] [] _) [⟨.Name v' p', .Name u _, [], 0⟩] sc' _) => c.lls && (c.lam && (blkC c.N c.sc sc' own && ((own.map (·.2)).all (fun k => decide (k < c.N.length)) && ((own.map (·.2)).contains j && (visB c u i && (chkT (blkSC c sc') (.nm j) (.Name v' p') &&
      (glB (blkSC c sc') y && (visB (blkSC c sc') v j && tellsX bs y))))))))
  | .rng1 a, c, .i (.Call (.Name y _) [x] [] _) => decide (y = "range") && (glB c y && (notStar x && chk a c (.e x)))
  | .rng2 a b, c, .i (.Call (.Name y _) [x, z] [] _) => decide (y = "range") && (glB c y && (notStar x && (notStar z && (chk a c (.e x) && chk b c (.e z)))))
  | .rng3 a b d, c, .i (.Call (.Name y _) [x, z, u] [] _) => decide (y = "range") && (glB c y && (notStar x && (notStar z && (notStar u && (chk a c (.e x) && (chk b c (.e z) && chk d c (.e u)))))))
  | .enum a, c, .i (.Call (.Name y _) [x] [] _) => decide (y = "enumerate") && (glB c y && (notStar x && chk a c (.e x)))
  | .zip a b, c, .i (.Call (.Name y _) [x, z] [] _) => decide (y = "zip") && (glB c y && (notStar x && (notStar z && (chk a c (.e x) && chk b c (.e z)))))
  | .zip3 a b d, c, .i (.Call (.Name y _) [x, z, u] [] _) => decide (y = "zip") && (glB c y && (notStar x && (notStar z && (notStar u && (chk a c (.e x) && (chk b c (.e z) && chk d c (.e u)))))))
  | _, _, _ => false

/-! ### what the text's forms are, by these tests -/
theorem ba {a b : Bool} (h : (a && b) = true) : a = true ∧ b = true := Bool.and_eq_true_iff.mp h
theorem starEach_of {x : Expr} {xs : List Expr} {env : Env} (h : notStar x = true) : starEach (x :: xs) env = (false, eval x env) :: starEach xs env := by
  cases x <;> first | rfl | cases h
theorem plainIx_of {x : Expr} (h : notSlice x = true) : PlainIx x := by
  cases x <;> first | exact fun _ _ => rfl | cases h
theorem base_of {x : Expr} {f : Str} {env : Env} (h : plainBase x = true) : attributeBase x f env (eval x env) = eval x env := by
  unfold attributeBase
  split
  · rename_i id p1 p2; cases h
  · rfl
theorem set_of {x : Expr} {env : Env} (h : notSet x = true) (v : Value) : foldedSetIterable x env v = pure v := by
  cases x <;> first | rfl | cases h
theorem marks_of {x : Expr} {op : CmpOp} (h : notSet x = true) : behindInMarks op x = false := by
  cases x <;> first | rfl | cases h
theorem swaps_of {x : Expr} {t : Option Expr} {l : Nat} {env : Env} (h : notComp x = true) : swapsWith x t l env = pure false := by
  cases x <;> first | rfl | cases h
theorem test_of {x : Expr} {env : Env} (h : plainTest x = true) (whole : Sem Value) : isTrue x env whole = (do let v ← whole; standAt x.pos; holding [v] (truthy v)) := by
  cases x with
  | UnaryOp op a p => cases op <;> first | rfl | cases h
  | BoolOp a b c => cases h
  | IfExp a b c d => cases h
  | Compare a b c d => cases h
  | _ => rfl
theorem back_any {pos : Pos} {l : List (Bool × Sem Value)} (h : l.any (·.1) = false) : (backTo pos l).any (·.1) = false := by
  unfold backTo
  rw [List.any_map]
  exact h
theorem star_any {env : Env} : ∀ {xs : List Expr}, xs.all notStar = true → (starEach xs env).any (·.1) = false
  | [], _ => rfl
  | x :: xs, h => by
    obtain ⟨h1, h2⟩ := ba (show (notStar x && xs.all notStar) = true from h)
    rw [starEach_of h1]
    exact star_any h2
theorem back_of {pos : Pos} {xs : List Expr} {env : Env} (h : xs.all notStar = true) : (backTo pos (starEach xs env)).any (·.1) = false := back_any (star_any h)
theorem star_len {env : Env} : ∀ {xs : List Expr}, xs.all notStar = true → (starEach xs env).length = xs.length
  | [], _ => rfl
  | x :: xs, h => by
    obtain ⟨h1, h2⟩ := ba (show (notStar x && xs.all notStar) = true from h)
    rw [starEach_of h1, List.length_cons, List.length_cons, star_len h2]
/-- the arguments bear no star -/
theorem chk_star {c : SC} : ∀ {es : E} {xs : List Expr}, chk es c (.es xs) = true → xs.all notStar = true
  | .nil, [], _ => rfl
  | .cons a r, x :: xs, h => by
    obtain ⟨h1, h2⟩ := ba (show (notStar x && (chk a c (.e x) && chk r c (.es xs))) = true from h)
    rw [List.all_cons, h1, chk_star (ba h2).2]
    rfl
end DI
set_option Elab.async false
set_option linter.all false
set_option maxRecDepth 100000
/-! Sd: the machine's operations on values, by the data that these stand for. -/
namespace DI
open PySem PySem.Spec PyProof.Rows
open L2 hiding ixN

section
variable {W : Wd} {R : Addr} {Ex : XK} {k : Kd} {F H F' H' : Hp} {v : V} {d : D}
/-- several values -/
inductive PKs (W : Wd) (R : Addr) (k : Kd) (H F' H' : Hp) : List V → List D → Prop
  | nil : PKs W R k H F' H' [] []
  | cons {v : V} {vs : List V} {d : D} {ds : List D} : PK W R k H F' H' v d → PKs W R k H F' H' vs ds → PKs W R k H F' H' (v :: vs) (d :: ds)
theorem PKs.reps : ∀ {vs : List V} {ds : List D}, PKs W R .c H F' H' vs ds → Reps W R F' vs ds
  | _, _, .nil => .nil
  | _, _, .cons a b => .cons a (PKs.reps b)
theorem PKs.length : ∀ {vs : List V} {ds : List D}, PKs W R k H F' H' vs ds → vs.length = ds.length
  | _, _, .nil => rfl
  | _, _, .cons _ b => by rw [List.length_cons, List.length_cons, PKs.length b]
theorem PKs.toB : ∀ {vs : List V} {ds : List D}, PKs W R k H F' H' vs ds → PKs W R .b H F' H' vs ds
  | _, _, .nil => .nil
  | _, _, .cons a b => .cons a.toB (PKs.toB b)
/-! ### reading a value by its data -/
abbrev BB (W : Wd) (R : Addr) (F H : Hp) (v : V) (d : D) : Prop := PK W R .b H F H v d
theorem BB.int {i : Int} (h : BB W R F H v (.int i)) : v = .int i := by
  rcases h with h | ⟨_, _, _, _, e, _⟩ | ⟨_, _, _, _, e, _⟩
  · cases h; rfl
  · cases e
  · cases e
theorem BB.bl {b : Bool} (h : BB W R F H v (.bl b)) : v = .bl b := by
  rcases h with h | ⟨_, _, _, _, e, _⟩ | ⟨_, _, _, _, e, _⟩
  · cases h; rfl
  · cases e
  · cases e
theorem BB.non (h : BB W R F H v .non) : v = .non := by
  rcases h with h | ⟨_, _, _, _, e, _⟩ | ⟨_, _, _, _, e, _⟩
  · cases h; rfl
  · cases e
  · cases e
theorem BB.str {x : Str} (h : BB W R F H v (.str x)) : v = .str x ∧ okS x := by
  rcases h with h | ⟨_, _, _, _, e, _⟩ | ⟨_, _, _, _, e, _⟩
  · cases h with | str _ h => exact ⟨rfl, h⟩
  · cases e
  · cases e
theorem BB.tup {ds : List D} (h : BB W R F H v (.tup ds)) : ∃ a xs, v = .ref a ∧ SqT W.K F a xs ∧ xs.length ≤ sizeLine ∧ Reps W R F xs ds := by
  rcases h with h | ⟨_, _, _, _, e, _⟩ | ⟨_, _, _, _, e, _⟩
  · cases h with | tup h l r => exact ⟨_, _, rfl, h, l, r⟩
  · cases e
  · cases e
theorem BB.lst {ds : List D} (le : Le F H) (h : BB W R F H v (.lst ds)) : ∃ a xs, v = .ref a ∧ H a = some (.lst xs) ∧ xs.length ≤ sizeLine ∧ Reps W R F xs ds := by
  rcases h with h | ⟨p, xs, ds', e1, e, e2, l, _, r, _⟩ | ⟨_, _, _, _, e, _⟩
  · cases h with | lst h l r => exact ⟨_, _, rfl, le _ _ h, l, r⟩
  · cases e; exact ⟨p, xs, e1, e2, l, r⟩
  · cases e
theorem BB.dic {ds : List (D × D)} (le : Le F H) (h : BB W R F H v (.dic ds)) : ∃ a xs, v = .ref a ∧ H a = some (.dK xs) ∧ xs.length ≤ sizeLine ∧ RepKV W R F xs ds := by
  rcases h with h | ⟨_, _, _, _, e, _⟩ | ⟨p, xs, ds', e1, e, e2, l, _, r, _⟩
  · cases h with | dic h l r => exact ⟨_, _, rfl, le _ _ h, l, r⟩
  · cases e
  · cases e; exact ⟨p, xs, e1, e2, l, r⟩
theorem PostE.lift_some {o : Option D} {r : Rho} {Q : VK} (h : PostE W R Ex k F H Q (.lift o r)) : ∃ d, o = some d ∧ PostE W R Ex k F H Q (.ok d r) := by
  cases o with
  | none => exact h.elim
  | some d => exact ⟨d, rfl, h⟩
/-- a flat value is handed back -/
theorem PostE.flat {d : D} {r : Rho} {Q : VK} (G : Good W R F H r) (h : PostE W R Ex .n F H Q (.ok d r)) {v : V} (p : Rep W R F v d) (hl : isL d = false) : Q v H := h v F H G (.refl _ _ _) (.inl ⟨p, hl⟩)
theorem PostE.flatC {d : D} {r : Rho} {Q : VK} (G : Good W R F H r) (h : PostE W R Ex .c F H Q (.ok d r)) {v : V} (p : Rep W R F v d) : Q v H := h v F H G (.refl _ _ _) p
theorem notCode {o : HO} (h : match o with | .ext _ => False | _ => True) (c : Addr) (q : Str) : o ≠ LamX.CodeO c q := fun z => by subst z; exact h
theorem Good.new {p : Addr} {o : HO} {r : Rho} (G : Good W R F H r) (hp : H p = none) (no : match o with | .ext _ => False | _ => True := by trivial) : Good W R F (upd H p o) r := by
  obtain ⟨a, e1, e2⟩ := G.row
  have le : Le H (upd H p o) := fun b u q => by rw [upd_ne (ne_of_none q hp)]; exact q
  exact ⟨G.le.trans le, G.fR, G.ft, ⟨a, le _ _ e1, e2⟩, G.tabs.ext fun b u q => le _ _ q, fun c q hc => by
    by_cases hb : c = p
    · rw [hb, upd_same] at hc; exact absurd (Option.some.inj hc) (notCode no _ _)
    · rw [upd_ne hb] at hc; exact G.cod c q hc⟩
theorem Good.neR {p : Addr} {r : Rho} (G : Good W R F H r) (hp : H p = none) : p ≠ R := fun e => by
  obtain ⟨a, e1, _⟩ := G.row
  rw [← e, hp] at e1; cases e1
theorem Good.fNone {p : Addr} {r : Rho} (G : Good W R F H r) (hp : H p = none) : F p = none := by
  cases q : F p with
  | none => rfl
  | some u => rw [G.le _ _ q] at hp; cases hp
/-- a new tuple -/
theorem PostE.tup {xs : List V} {ds : List D} {r : Rho} {Q : VK} {p : Addr} (G : Good W R F H r) (h : PostE W R Ex .n F H Q (.ok (.tup ds) r)) (rs : Reps W R F xs ds) (l : xs.length ≤ sizeLine) (hp : H p = none) : Q (.ref p) (upd H p (.tup xs)) := by
  have nF := G.fNone hp
  have le : Le F (upd F p (.tup xs)) := fun b u q => by rw [upd_ne (ne_of_none q nF)]; exact q
  refine h (.ref p) (upd F p (.tup xs)) _ ⟨fun b o q => ?_, by rw [upd_ne (G.neR hp).symm]; exact G.fR, fun b o q => ?_, (G.new (o := .tup xs) hp).row.mono le, (G.new hp).tabs, fun c q hc => upd_some ((G.new (o := .tup xs) hp).cod c q hc)⟩ ⟨le, .new hp, fun b q1 q2 => ?_⟩ (.inl ⟨.tup (.of upd_same) l (rs.mono le), rfl⟩)
  · by_cases hb : b = p
    · rw [hb, upd_same] at q; rw [hb, upd_same]; exact q
    · rw [upd_ne hb] at q; rw [upd_ne hb]; exact G.le _ _ q
  · by_cases hb : b = p
    · rw [hb, upd_same] at q; cases q; exact nt_tup
    · rw [upd_ne hb] at q; exact G.ft _ _ q
  · by_cases hb : b = p
    · rw [hb]; exact hp
    · rw [upd_ne hb] at q2; exact absurd q1 q2
/-- a new list -/
theorem PostE.lst {xs : List V} {ds : List D} {r : Rho} {Q : VK} {p : Addr} (G : Good W R F H r) (h : PostE W R Ex .n F H Q (.ok (.lst ds) r)) (rs : Reps W R F xs ds) (l : xs.length ≤ sizeLine) (hp : H p = none) : Q (.ref p) (upd H p (.lst xs)) :=
  h (.ref p) F _ (G.new hp) ⟨Le.refl _, .new hp, fun b q1 q2 => absurd q1 q2⟩ (.inr (.inl ⟨p, xs, ds, rfl, rfl, upd_same, l, G.neR hp, rs, G.fNone hp, fun _ => hp⟩))

/-! ### texts -/
theorem okS.app {x y : Str} (hx : okS x) (hy : okS y) (h : x.length + y.length ≤ sizeLine) : okS (x ++ y) := by
  refine ⟨?_, ?_⟩
  · show (x.cps ++ y.cps).size ≤ sizeLine
    rw [Array.size_append]; exact h
  · have h1 := hx.2
    have h2 := hy.2
    unfold PyData.strOk at h1 h2 ⊢
    show (x.cps ++ y.cps).all _ = true
    rw [Array.all_append, h1, h2]; rfl

/-- an operation by its data -/
def rD2 (W : Wd) (R : Addr) (Ex : XK) (k : Kd) (g : D → D → Option D) : R2 := fun x y H Q => ∃ F r dx dy, Good W R F H r ∧ BB W R F H x dx ∧ BB W R F H y dy ∧ PostE W R Ex k F H Q (.lift (g dx dy) r)
variable {X : Cx}
theorem opD_add (hK : X.K = W.K) : OpR X (binaryOp .Add) (rD2 W R Ex .n (opD .add)) := by
  intro pins s σ H x y v u Q I rx ry ⟨F, r, dx, dy, G, bx, by_, h0⟩
  obtain ⟨d, e, h⟩ := h0.lift_some; clear h0
  cases dx <;> cases dy <;> simp only [opD] at e <;> try (cases e)
  · rename_i i j
    rw [bx.int] at rx; rw [by_.int] at ry
    exact op_add pins s σ H _ _ v u Q I rx ry ⟨i, j, rfl, rfl, h.flat G (.int _) rfl⟩
  · rename_i a b
    split at e
    · rename_i hl
      cases e
      obtain ⟨rfl, ka⟩ := bx.str
      obtain ⟨rfl, kb⟩ := by_.str
      exact op_add_str pins s σ H _ _ v u Q I rx ry ⟨a, b, rfl, rfl, hl, h.flat G (.str _ (ka.app kb hl)) rfl⟩
    · cases e
  · rename_i xs ys
    split at e
    · rename_i hl
      cases e
      obtain ⟨a, vx, rfl, sx, lx, px⟩ := bx.tup
      obtain ⟨b, vy, rfl, sy, ly, py⟩ := by_.tup
      refine op_catA pins s σ H _ _ v u Q I rx ry ⟨a, b, vx, vy, rfl, rfl, by rw [hK]; exact G.le.sqT sx, by rw [hK]; exact G.le.sqT sy, by rw [px.length, py.length]; exact hl, fun e => ?_, fun _ e => ?_, fun _ _ p hp => ?_⟩
      · subst e; cases px; exact h.flat G (.tup sy ly py) rfl
      · subst e; cases py; rw [List.append_nil] at h; exact h.flat G (.tup sx lx px) rfl
      · exact h.tup G (px.append py) (by rw [List.length_append, px.length, py.length]; exact hl) hp
    · cases e
  · rename_i xs ys
    split at e
    · rename_i hl
      cases e
      obtain ⟨a, vx, rfl, sx, lx, px⟩ := bx.lst G.le
      obtain ⟨b, vy, rfl, sy, ly, py⟩ := by_.lst G.le
      refine op_cat pins s σ H _ _ v u Q I rx ry ⟨a, b, vx, vy, rfl, rfl, sx, sy, by rw [px.length, py.length]; exact hl, fun p hp => ?_⟩
      exact h.lst G (px.append py) (by rw [List.length_append, px.length, py.length]; exact hl) hp
    · cases e
theorem opD_sub : OpR X (binaryOp .Sub) (rD2 W R Ex .n (opD .sub)) := by
  intro pins s σ H x y v u Q I rx ry ⟨F, r, dx, dy, G, bx, by_, h0⟩
  obtain ⟨d, e, h⟩ := h0.lift_some; clear h0
  cases dx <;> cases dy <;> simp only [opD] at e <;> try (cases e)
  rename_i i j
  rw [bx.int] at rx; rw [by_.int] at ry
  exact op_sub pins s σ H _ _ v u Q I rx ry ⟨i, j, rfl, rfl, h.flat G (.int _) rfl⟩
theorem opD_mod : OpR X (binaryOp .Mod) (rD2 W R Ex .n (opD .mod)) := by
  intro pins s σ H x y v u Q I rx ry ⟨F, r, dx, dy, G, bx, by_, h0⟩
  obtain ⟨d, e, h⟩ := h0.lift_some; clear h0
  cases dx <;> cases dy <;> simp only [opD] at e <;> try (cases e)
  rename_i i j
  split at e
  · rename_i hj
    cases e
    rw [bx.int] at rx; rw [by_.int] at ry
    exact op_mod pins s σ H _ _ v u Q I rx ry ⟨i, j, rfl, rfl, hj, h.flat G (.int _) rfl⟩
  · cases e
theorem opD_fdiv : OpR X (binaryOp .FloorDiv) (rD2 W R Ex .n (opD .fdiv)) := by
  intro pins s σ H x y v u Q I rx ry ⟨F, r, dx, dy, G, bx, by_, h0⟩
  obtain ⟨d, e, h⟩ := h0.lift_some; clear h0
  cases dx <;> cases dy <;> simp only [opD] at e <;> try (cases e)
  rename_i i j
  split at e
  · rename_i hj
    cases e
    rw [bx.int] at rx; rw [by_.int] at ry
    exact op_fdiv pins s σ H _ _ v u Q I rx ry ⟨i, j, rfl, rfl, hj, h.flat G (.int _) rfl⟩
  · cases e
end
end DI
set_option Elab.async false
set_option linter.all false
set_option maxRecDepth 100000
/-! Se: comparisons, membership, subscripts, slices by their data. -/
namespace DI
open PySem PySem.Spec PyProof.Rows
open L2 hiding ixN
section
variable {W : Wd} {R : Addr} {Ex : XK} {k : Kd} {F H F' H' : Hp} {v : V} {d : D}
/-! ### pure data, as the library has it -/
mutual
theorem Rep.dp (le : Le F H) : ∀ (n : Nat) {v : V} {d : D}, pureD n d = true → Rep W R F v d → Dp W.K H v (toPy d) ∧ (toPy d).canLay0 = true ∧ (toPy d).depth ≤ n
  | n, _, .non, _, .non => ⟨.non, rfl, Nat.zero_le _⟩
  | n, _, .bl _, _, .bl b => ⟨.bl b, rfl, Nat.zero_le _⟩
  | n, _, .int _, _, .int i => ⟨.int i, rfl, Nat.zero_le _⟩
  | n, _, .str _, _, .str x h => ⟨.str x, by simpa only [toPy, PyData.canLay0] using h.2, Nat.zero_le _⟩
  | n + 1, _, .tup ds, hp, .tup h l r => by
    obtain ⟨a, b, c⟩ := Reps.dp le n (d := ds) (by simpa only [pureD] using hp) r
    exact ⟨.tup (le.sqT h) a, by simpa only [toPy, PyData.canLay0] using b, by simpa only [toPy, PyData.depth] using Nat.succ_le_succ c⟩
  | n + 1, _, .lst ds, hp, .lst h l r => by
    obtain ⟨a, b, c⟩ := Reps.dp le n (d := ds) (by simpa only [pureD] using hp) r
    exact ⟨.lst (.of (le _ _ h)) a, by simpa only [toPy, PyData.canLay0] using b, by simpa only [toPy, PyData.depth] using Nat.succ_le_succ c⟩
theorem Reps.dp (le : Le F H) : ∀ (n : Nat) {v : List V} {d : List D}, pureL n d = true → Reps W R F v d → DpAll W.K H v (toPys d) ∧ PyData.canLayAll0 (toPys d) = true ∧ PyData.depthAll (toPys d) ≤ n
  | n, _, [], _, .nil => ⟨.nil, rfl, Nat.zero_le _⟩
  | n, _, x :: xs, hp, .cons a b => by
    obtain ⟨h1, h2⟩ := ba (show (pureD n x && pureL n xs) = true by simpa only [pureL] using hp)
    obtain ⟨a1, a2, a3⟩ := Rep.dp le n h1 a
    obtain ⟨b1, b2, b3⟩ := Reps.dp le n h2 b
    exact ⟨.cons a1 b1, by simp only [toPys, PyData.canLayAll0, a2, b2, Bool.and_self], by simpa only [toPys, PyData.depthAll] using Nat.max_le.mpr ⟨a3, b3⟩⟩
end
theorem BB.dp (le : Le F H) {n : Nat} (hp : pureD n d = true) (b : BB W R F H v d) : Dp W.K H v (toPy d) ∧ (toPy d).canLay0 = true ∧ (toPy d).depth ≤ n := by
  rcases b with h | ⟨p, xs, ds, rfl, rfl, e2, l, _, r, _⟩ | ⟨_, _, _, rfl, rfl, _⟩
  · exact h.dp le n hp
  · cases n with
    | zero => cases (show false = true by simpa only [pureD] using hp)
    | succ n =>
      obtain ⟨a, b, c⟩ := Reps.dp le n (d := ds) (by simpa only [pureD] using hp) r
      exact ⟨.lst (.of e2) a, by simpa only [toPy, PyData.canLay0] using b, by simpa only [toPy, PyData.depth] using Nat.succ_le_succ c⟩
  · cases n <;> cases (show false = true by simpa only [pureD] using hp)
theorem shaped_of {d : PyData} {n : Nat} (a : d.canLay0 = true) (b : d.depth ≤ n) (hn : n ≤ 64) : SeqAt.shaped d = true := by
  unfold SeqAt.shaped
  rw [a, decide_eq_true (Nat.le_trans b hn)]; rfl
variable {X : Cx}
theorem opD_eq (hK : X.K = W.K) (hu : X.A.units + 64 < cLine) : OpR X (compareOp .Eq) (rD2 W R Ex .n fun x y => (cmpD .eq x y).map .bl) := by
  intro pins s σ H x y v u Q I rx ry ⟨F, r, dx, dy, G, bx, by_, h0⟩
  obtain ⟨d, e, h⟩ := h0.lift_some; clear h0
  simp only [cmpD] at e
  split at e
  · rename_i hp
    cases e
    obtain ⟨p1, p2⟩ := ba hp
    obtain ⟨a1, a2, a3⟩ := bx.dp G.le p1
    obtain ⟨b1, b2, b3⟩ := by_.dp G.le p2
    exact op_eqD hu pins s σ H _ _ v u Q I rx ry ⟨_, _, by rw [hK]; exact a1, by rw [hK]; exact b1, shaped_of a2 a3 (by decide), shaped_of b2 b3 (by decide), h.flat G (.bl _) rfl⟩
  · cases e
theorem opD_ne (hK : X.K = W.K) (hu : X.A.units + 64 < cLine) : OpR X (compareOp .NotEq) (rD2 W R Ex .n fun x y => (cmpD .ne x y).map .bl) := by
  intro pins s σ H x y v u Q I rx ry ⟨F, r, dx, dy, G, bx, by_, h0⟩
  obtain ⟨d, e, h⟩ := h0.lift_some; clear h0
  simp only [cmpD] at e
  split at e
  · rename_i hp
    cases e
    obtain ⟨p1, p2⟩ := ba hp
    obtain ⟨a1, a2, a3⟩ := bx.dp G.le p1
    obtain ⟨b1, b2, b3⟩ := by_.dp G.le p2
    exact op_neD hu pins s σ H _ _ v u Q I rx ry ⟨_, _, by rw [hK]; exact a1, by rw [hK]; exact b1, shaped_of a2 a3 (by decide), shaped_of b2 b3 (by decide), h.flat G (.bl _) rfl⟩
  · cases e
theorem opD_le : OpR X (compareOp .LtE) (rD2 W R Ex .n fun x y => (cmpD .le x y).map .bl) := by
  intro pins s σ H x y v u Q I rx ry ⟨F, r, dx, dy, G, bx, by_, h0⟩
  obtain ⟨d, e, h⟩ := h0.lift_some; clear h0
  cases dx <;> cases dy <;> simp only [cmpD] at e <;> try (cases e)
  rw [bx.int] at rx; rw [by_.int] at ry
  exact op_le pins s σ H _ _ v u Q I rx ry ⟨_, _, rfl, rfl, h.flat G (.bl _) rfl⟩
theorem opD_ge : OpR X (compareOp .GtE) (rD2 W R Ex .n fun x y => (cmpD .ge x y).map .bl) := by
  intro pins s σ H x y v u Q I rx ry ⟨F, r, dx, dy, G, bx, by_, h0⟩
  obtain ⟨d, e, h⟩ := h0.lift_some; clear h0
  cases dx <;> cases dy <;> simp only [cmpD] at e <;> try (cases e)
  rw [bx.int] at rx; rw [by_.int] at ry
  exact op_ge pins s σ H _ _ v u Q I rx ry ⟨_, _, rfl, rfl, h.flat G (.bl _) rfl⟩
theorem opD_gt : OpR X (compareOp .Gt) (rD2 W R Ex .n fun x y => (cmpD .gt x y).map .bl) := by
  intro pins s σ H x y v u Q I rx ry ⟨F, r, dx, dy, G, bx, by_, h0⟩
  obtain ⟨d, e, h⟩ := h0.lift_some; clear h0
  cases dx <;> cases dy <;> simp only [cmpD] at e <;> try (cases e)
  rw [bx.int] at rx; rw [by_.int] at ry
  exact op_gt pins s σ H _ _ v u Q I rx ry ⟨_, _, rfl, rfl, h.flat G (.bl _) rfl⟩
theorem BB.isNon (b : BB W R F H v d) : decide (v = .non) = (match d with | .non => true | _ => false) ∨ ∃ n cs, d = .fnv n cs := by
  rcases b with h | ⟨p, xs, ds, rfl, rfl, _⟩ | ⟨p, xs, ds, rfl, rfl, _⟩
  · cases h with
    | non => exact .inl rfl
    | fnv h r => exact .inr ⟨_, _, rfl⟩
    | _ => exact .inl rfl
  · exact .inl rfl
  · exact .inl rfl
theorem opD_is : OpR X (compareOp .Is) (rD2 W R Ex .n fun x y => (cmpD .is x y).map .bl) := by
  intro pins s σ H x y v u Q I rx ry ⟨F, r, dx, dy, G, bx, by_, h0⟩
  obtain ⟨d, e, h⟩ := h0.lift_some; clear h0
  cases dy <;> try (simp only [cmpD, Option.map_none] at e; cases e)
  rw [by_.non] at ry
  rcases bx.isNon with q | ⟨n, cs, rfl⟩
  · refine op_isN pins s σ H _ _ v u Q I rx ry ⟨rfl, ?_⟩
    rw [q]
    cases dx <;> simp only [cmpD, Option.map_some, Option.map_none, Option.some.injEq, reduceCtorEq] at e <;> subst e <;> exact h.flat G (.bl _) rfl
  · simp only [cmpD, Option.map_none] at e; cases e
theorem opD_isnt : OpR X (compareOp .IsNot) (rD2 W R Ex .n fun x y => (cmpD .isnt x y).map .bl) := by
  intro pins s σ H x y v u Q I rx ry ⟨F, r, dx, dy, G, bx, by_, h0⟩
  obtain ⟨d, e, h⟩ := h0.lift_some; clear h0
  cases dy <;> try (simp only [cmpD, Option.map_none] at e; cases e)
  rw [by_.non] at ry
  rcases bx.isNon with q | ⟨n, cs, rfl⟩
  · refine op_notN pins s σ H _ _ v u Q I rx ry ⟨rfl, ?_⟩
    rw [q]
    cases dx <;> simp only [cmpD, Option.map_some, Option.map_none, Option.some.injEq, reduceCtorEq] at e <;> subst e <;> exact h.flat G (.bl _) rfl
  · simp only [cmpD, Option.map_none] at e; cases e
end
end DI
set_option Elab.async false
set_option linter.all false
set_option maxRecDepth 100000
/-! Sf: order of data, membership, subscripts, slices. -/
namespace DI
open PySem PySem.Spec PyProof.Rows
open L2 hiding ixN
section
variable {W : Wd} {R : Addr} {Ex : XK} {k : Kd} {F H F' H' : Hp} {v : V} {d : D} {X : Cx}
/-! ### order -/
theorem Rep.eqAt (hK : X.K = W.K) {pins : List (Addr × Obj)} {σ : L2.St} {s : Shared} (I : Inv X pins σ H s) (le : Le F H) {n : Nat} {dx dy : D} {x y : V} {u w : Value} {A : Around} (hp : pureD n dx = true) (hq : pureD n dy = true)
    (a : Rep W R F x dx) (b : Rep W R F y dy) (ru : RelV x u) (rw' : RelV y w) (hu : A.units + n < cLine) : SeqAt.EqAt A s u w (eqD dx dy) := by
  obtain ⟨a1, a2, a3⟩ := a.dp le n hp
  obtain ⟨b1, b2, b3⟩ := b.dp le n hq
  rw [← hK] at a1 b1
  obtain ⟨as, r1⟩ := Dp.reads I _ _ _ a1 ru
  obtain ⟨bs, r2⟩ := Dp.reads I _ _ _ b1 rw'
  refine SeqAt.eqAt_reads _ _ A s _ _ _ _ r1 r2 a2 b2 ?_
  have := Nat.min_le_left (toPy dx).depth (toPy dy).depth
  omega
/-- what ltL says of each place -/
theorem ltL_spec {n : Nat} : ∀ {xs ys : List D} {b : Bool}, ltL n xs ys = some b →
    (∀ (j : Nat) (h1 : j < xs.length) (h2 : j < ys.length), pureD n xs[j] = true ∧ pureD n ys[j] = true ∧ (eqD xs[j] ys[j] = false → ∃ c, ltD n xs[j] ys[j] = some c)) ∧
    ∀ (i : Nat) (e r : Nat → Bool), (∀ (j : Nat) (h1 : j < xs.length) (h2 : j < ys.length), e (i + j) = eqD xs[j] ys[j] ∧ (eqD xs[j] ys[j] = false → ltD n xs[j] ys[j] = some (r (i + j)))) →
      b = Ob.lexAt e r (decide (xs.length < ys.length)) i (min xs.length ys.length)
  | [], [], b, h => by
    cases (show some false = some b by simpa only [ltL] using h)
    exact ⟨fun j h1 => absurd h1 (Nat.not_lt_zero _), fun i e r _ => rfl⟩
  | [], y :: ys, b, h => by
    cases (show some true = some b by simpa only [ltL] using h)
    refine ⟨fun j h1 => absurd h1 (Nat.not_lt_zero _), fun i e r _ => ?_⟩
    show true = Ob.lexAt e r (decide (0 < ys.length + 1)) i (min 0 (ys.length + 1))
    rw [Nat.zero_min, Ob.lexAt_zero, decide_eq_true (Nat.succ_pos _)]
  | x :: xs, [], b, h => by
    cases (show some false = some b by simpa only [ltL] using h)
    refine ⟨fun j _ h2 => absurd h2 (Nat.not_lt_zero _), fun i e r _ => ?_⟩
    show false = Ob.lexAt e r (decide (xs.length + 1 < 0)) i (min (xs.length + 1) 0)
    rw [Nat.min_zero, Ob.lexAt_zero, decide_eq_false (Nat.not_lt_zero _)]
  | x :: xs, y :: ys, b, h => by
    simp only [ltL] at h
    split at h
    · rename_i hp
      obtain ⟨p1, p2⟩ := ba hp
      cases q : ltL n xs ys with
      | none => rw [q] at h; cases h
      | some c =>
        rw [q] at h
        obtain ⟨h1, h2⟩ := ltL_spec q
        have h3 : (if eqD x y = true then some c else ltD n x y) = some b := h
        refine ⟨fun j a1 a2 => ?_, fun i e r he => ?_⟩
        · cases j with
          | zero =>
            refine ⟨p1, p2, fun ne => ?_⟩
            have ne : eqD x y = false := ne
            rw [ne] at h3
            exact ⟨b, h3⟩
          | succ j => exact h1 j (Nat.lt_of_succ_lt_succ a1) (Nat.lt_of_succ_lt_succ a2)
        · have e0 := he 0 (Nat.succ_pos _) (Nat.succ_pos _)
          have hmin : min (x :: xs).length (y :: ys).length = min xs.length ys.length + 1 := by rw [List.length_cons, List.length_cons, Nat.succ_min_succ]
          have hlt : decide ((x :: xs).length < (y :: ys).length) = decide (xs.length < ys.length) := by
            rw [List.length_cons, List.length_cons]
            by_cases q : xs.length < ys.length
            · rw [decide_eq_true q, decide_eq_true (Nat.succ_lt_succ q)]
            · rw [decide_eq_false q, decide_eq_false (fun z => q (Nat.lt_of_succ_lt_succ z))]
          rw [hmin, Ob.lexAt_succ, hlt]
          have e1 : e i = eqD x y := e0.1
          rw [e1]
          by_cases hq : eqD x y = true
          · rw [if_pos hq] at h3 ⊢
            cases h3
            exact h2 (i + 1) e r fun j a1 a2 => by
              have := he (j + 1) (Nat.succ_lt_succ a1) (Nat.succ_lt_succ a2)
              rw [show i + 1 + j = i + (j + 1) by omega]
              exact this
          · rw [if_neg hq] at h3 ⊢
            have := e0.2 (by cases q : eqD x y with | true => exact absurd q hq | false => exact q)
            rw [show (x :: xs)[0] = x from rfl, show (y :: ys)[0] = y from rfl, h3] at this
            exact Option.some.inj this
    · cases h
theorem RcOp.lt_strs {A : Around} {s : Shared} (a b : Str) (t u : Tok) : Ob.RcOp .Lt A s (.str a t) (.str b u) (decide (a.cps.toList < b.cps.toList)) := by
  intro prog w E Q h
  show wpAny (model prog w) A (compareOp .Lt (.str a t) (.str b u)) Q E s
  exact lt_str h
theorem ltAt (hK : X.K = W.K) {pins : List (Addr × Obj)} {σ : L2.St} {s : Shared} (I : Inv X pins σ H s) (le : Le F H) : ∀ (n : Nat) {dx dy : D} {b : Bool}, ltD n dx dy = some b → ∀ {x y : V} {u w : Value} {A : Around},
    Rep W R F x dx → Rep W R F y dy → RelV x u → RelV y w → A.units + 2 * n + 1 < cLine → Ob.RcOp .Lt A s u w b := by
  intro n
  induction n with
  | zero =>
    intro dx dy b h x y u w A a c ru rw' hu
    cases dx <;> cases dy <;> simp only [ltD] at h <;> try (cases h)
    · cases a; cases c; obtain ⟨t, rfl⟩ := ru; obtain ⟨t', rfl⟩ := rw'; exact Ob.RcOp.lt_int _ _ _ _
    · cases a; cases c; obtain ⟨t, rfl⟩ := ru; obtain ⟨t', rfl⟩ := rw'; exact RcOp.lt_strs _ _ _ _
  | succ n ih =>
    intro dx dy b h x y u w A a c ru rw' hu
    cases dx <;> cases dy <;> simp only [ltD] at h <;> try (cases h)
    · cases a; cases c; obtain ⟨t, rfl⟩ := ru; obtain ⟨t', rfl⟩ := rw'; exact Ob.RcOp.lt_int _ _ _ _
    · cases a; cases c; obtain ⟨t, rfl⟩ := ru; obtain ⟨t', rfl⟩ := rw'; exact RcOp.lt_strs _ _ _ _
    · rename_i ds es
      cases a with
      | tup ha la ra =>
        cases c with
        | tup hc lc rc =>
          cases ru; cases rw'
          obtain ⟨its, r1, p1, _⟩ := I.tuple (by rw [hK]; exact le.sqT ha)
          obtain ⟨its2, r2, p2, _⟩ := I.tuple (by rw [hK]; exact le.sqT hc)
          obtain ⟨h1, h2⟩ := ltL_spec h
          have l1 : its.toArray.size = ds.length := by rw [List.size_toArray, ← r1.length, ra.length]
          have l2 : its2.toArray.size = es.length := by rw [List.size_toArray, ← r2.length, rc.length]
          have at1 : ∀ j (q1 : j < its.toArray.size) (q : j < ds.length), ∃ x, RelV x its.toArray[j] ∧ Rep W R F x ds[j] := fun j q1 q => by
            obtain ⟨x, e1, e2⟩ := ra.get (List.getElem?_eq_getElem q)
            obtain ⟨u, e3, e4⟩ := r1.get e1
            refine ⟨x, ?_, e2⟩
            have : its.toArray[j] = u := by
              have := (List.getElem?_eq_some_iff.mp e3).2
              simpa using this
            rw [this]; exact e4
          have at2 : ∀ j (q1 : j < its2.toArray.size) (q : j < es.length), ∃ x, RelV x its2.toArray[j] ∧ Rep W R F x es[j] := fun j q1 q => by
            obtain ⟨x, e1, e2⟩ := rc.get (List.getElem?_eq_getElem q)
            obtain ⟨u, e3, e4⟩ := r2.get e1
            refine ⟨x, ?_, e2⟩
            have : its2.toArray[j] = u := by
              have := (List.getElem?_eq_some_iff.mp e3).2
              simpa using this
            rw [this]; exact e4
          have hA : A.in1.units = A.units + 1 := rfl
          have Z := Ob.RcOp.tuples_lt (A := A) (s := s) (e := fun j => eqD (ds.getD j .non) (es.getD j .non)) (r := fun j => (ltD n (ds.getD j .non) (es.getD j .non)).getD false) p1 p2 (by omega) (fun j q1 q2 => by
            have z1 : j < ds.length := by omega
            have z2 : j < es.length := by omega
            obtain ⟨x, ru, rx⟩ := at1 j q1 z1
            obtain ⟨y, rw', ry⟩ := at2 j q2 z2
            obtain ⟨w1, w2, _⟩ := h1 j z1 z2
            have e1 : ds.getD j .non = ds[j] := by rw [List.getD_eq_getElem?_getD, List.getElem?_eq_getElem z1]; rfl
            have e2 : es.getD j .non = es[j] := by rw [List.getD_eq_getElem?_getD, List.getElem?_eq_getElem z2]; rfl
            simp only [e1, e2]
            exact Rep.eqAt hK I le w1 w2 rx ry ru rw' (by omega)) (fun j q1 q2 ne => by
            have z1 : j < ds.length := by omega
            have z2 : j < es.length := by omega
            obtain ⟨x, ru, rx⟩ := at1 j q1 z1
            obtain ⟨y, rw', ry⟩ := at2 j q2 z2
            obtain ⟨w1, w2, w3⟩ := h1 j z1 z2
            have e1 : ds.getD j .non = ds[j] := by rw [List.getD_eq_getElem?_getD, List.getElem?_eq_getElem z1]; rfl
            have e2 : es.getD j .non = es[j] := by rw [List.getD_eq_getElem?_getD, List.getElem?_eq_getElem z2]; rfl
            simp only [e1, e2] at ne ⊢
            obtain ⟨c, hc⟩ := w3 ne
            rw [hc]
            exact ih hc rx ry ru rw' (by omega))
          rw [l1, l2] at Z
          have fin := h2 0 (fun j => eqD (ds.getD j .non) (es.getD j .non)) (fun j => (ltD n (ds.getD j .non) (es.getD j .non)).getD false) fun j z1 z2 => by
            have e1 : ds.getD j .non = ds[j] := by rw [List.getD_eq_getElem?_getD, List.getElem?_eq_getElem z1]; rfl
            have e2 : es.getD j .non = es[j] := by rw [List.getD_eq_getElem?_getD, List.getElem?_eq_getElem z2]; rfl
            simp only [Nat.zero_add, e1, e2]
            refine ⟨trivial, fun ne => ?_⟩
            obtain ⟨c, hc⟩ := (h1 j z1 z2).2.2 ne
            rw [hc]; rfl
          rw [fin]
          exact Z
theorem ltD_notL {n : Nat} {dx dy : D} {b : Bool} (h : ltD n dx dy = some b) : isL dx = false ∧ isL dy = false := by
  cases n <;> cases dx <;> cases dy <;> simp only [ltD, reduceCtorEq] at h <;> exact ⟨rfl, rfl⟩
theorem BB.rep (b : BB W R F H v d) (h : isL d = false) : Rep W R F v d := by
  rcases b with h | ⟨p, xs, ds, rfl, rfl, _⟩ | ⟨p, xs, ds, rfl, rfl, _⟩
  · exact h
  · cases h
  · cases h
theorem opD_lt (hK : X.K = W.K) (hu : X.A.units + 64 < cLine) : OpR X (compareOp .Lt) (rD2 W R Ex .n fun x y => (cmpD .lt x y).map .bl) := by
  intro pins s σ H x y v u Q I rx ry ⟨F, r, dx, dy, G, bx, by_, h0⟩
  obtain ⟨d, e, h⟩ := h0.lift_some; clear h0
  simp only [cmpD] at e
  obtain ⟨b, e1, e2⟩ := Option.map_eq_some_iff.mp e
  subst e2
  obtain ⟨n1, n2⟩ := ltD_notL e1
  have z : wpAny (model X.prog X.w) X.A (compareOp .Lt v u) (EP X pins σ Q) X.xe s :=
    ltAt hK I G.le 20 e1 (bx.rep n1) (by_.rep n2) rx ry (by omega) X.prog X.w X.xe (EP X pins σ Q) ⟨.bl b, H, I, rfl, h.flat G (.bl _) rfl⟩
  exact z
/-! ### membership -/
theorem inL_any (x : D) : ∀ ys : List D, inL x ys = (toPys ys).any fun z => PyData.eqv z (toPy x)
  | [] => rfl
  | y :: r => by simp only [inL, toPys, List.any_cons, inL_any x r, eqD]
theorem eqV_eqD {x y : V} {a b : D} (ra : Rep W R F x a) (rb : Rep W R F y b) (fa : flatD a = true) (fb : flatD b = true) : eqV x y = eqD a b := by
  cases ra <;> first | (cases fa; done) | skip
  all_goals (cases rb <;> first | (cases fb; done) | skip)
  all_goals (simp only [eqV, eqD, toPy, PyData.eqv])
theorem flat_of {x : V} {a : D} (ra : Rep W R F x a) (fa : flatD a = true) : flatV x = true := by
  cases ra <;> first | rfl | cases fa
theorem flats_of : ∀ {xs : List V} {ds : List D}, Reps W R F xs ds → ds.all flatD = true → xs.all flatV = true
  | _, _, .nil, _ => rfl
  | _, _, .cons a b, h => by
    obtain ⟨h1, h2⟩ := ba (by simpa only [List.all_cons] using h)
    rw [List.all_cons, flat_of a h1, flats_of b h2]; rfl
theorem inV_inL {x : V} {a : D} (ra : Rep W R F x a) (fa : flatD a = true) : ∀ {xs : List V} {ds : List D}, Reps W R F xs ds → ds.all flatD = true → inV x xs = inL a ds
  | _, _, .nil, _ => rfl
  | _, _, .cons p q, h => by
    obtain ⟨h1, h2⟩ := ba (by simpa only [List.all_cons] using h)
    have ih := inV_inL ra fa q h2
    unfold inV at ih ⊢
    rw [List.any_cons, inL, ih, eqV_eqD p ra h1 fa]
theorem sign_of {x : Str} (h : x.length = 1) : x = ⟨#[x.cps.getD 0 0]⟩ := by
  obtain ⟨⟨l⟩⟩ := x
  match l, h with
  | [c], _ => rfl
/-! dicts -/
theorem keyD_eq (a b : Key) : eqD (keyD a) (keyD b) = decide (a = b) := by
  cases a with
  | inl i => cases b with
    | inl j => rw [key_ll]; rfl
    | inr y => rw [key_lr]; rfl
  | inr x => cases b with
    | inl j => rw [key_rl]; rfl
    | inr y => rw [key_rr]; simp only [keyD, eqD, toPy, PyData.eqv]; by_cases e : x = y
               · subst e; simp
               · rw [decide_eq_false e]; exact beq_eq_false_iff_ne.mpr e
theorem key_of {v : V} {d : D} (h : isKey d = true) (b : Rep W R F v d) : ∃ k, v = kV k ∧ d = keyD k ∧ ∀ x, k = .inr x → okS x := by
  cases b with
  | int i => exact ⟨.inl i, rfl, rfl, fun _ e => by cases e⟩
  | str x hx => exact ⟨.inr x, rfl, rfl, fun _ e => by cases e; exact hx⟩
  | _ => cases h
theorem valV_lookD (k : Key) : ∀ {kvs : List (Key × V)} {ds : List (D × D)}, RepKV W R F kvs ds → (∀ d, lookD (keyD k) ds = some d → ∃ v, valV kvs k = some v ∧ Rep W R F v d) ∧ (lookD (keyD k) ds = none → valV kvs k = none)
  | _, _, .nil => ⟨fun d e => (by cases e), fun _ => rfl⟩
  | _, _, .cons (k := a) (v := v) (r := r) (d := d) (ds := ds) hk p q => by
    obtain ⟨h1, h2⟩ := valV_lookD k q
    simp only [lookD, keyD_eq]
    by_cases e : a = k
    · subst e
      have z : valV ((a, v) :: r) a = some v := by
        unfold valV
        rw [List.find?_cons_of_pos (by simp)]; rfl
      rw [decide_eq_true rfl, if_pos rfl]
      exact ⟨fun d' e => (by cases e; exact ⟨v, z, p⟩), fun e => (by cases e)⟩
    · have z : valV ((a, v) :: r) k = valV r k := by
        unfold valV
        rw [List.find?_cons_of_neg (by simpa using e)]
      rw [decide_eq_false e, if_neg (by decide), z]
      exact ⟨h1, h2⟩
theorem valV_isSome (k : Key) {kvs : List (Key × V)} {ds : List (D × D)} (h : RepKV W R F kvs ds) : (valV kvs k).isSome = (lookD (keyD k) ds).isSome := by
  obtain ⟨h1, h2⟩ := valV_lookD k h
  cases q : lookD (keyD k) ds with
  | none => rw [h2 q]; rfl
  | some d => obtain ⟨v, e, _⟩ := h1 d q; rw [e]; rfl
theorem opD_in (n : Bool) (hK : X.K = W.K) (hu : X.A.units + 65 < cLine) : OpR X (compareOp (if n then CmpOp.NotIn else .In)) (rD2 W R Ex .n fun x y => (inD x y).map fun k => .bl (k != n)) := by
  intro pins s σ H x y v u Q I rx ry ⟨F, r, dx, dy, G, bx, by_, h0⟩
  obtain ⟨d, e, h⟩ := h0.lift_some; clear h0
  obtain ⟨b, e1, e2⟩ := Option.map_eq_some_iff.mp e
  subst e2
  have fin : Q (.bl (b != n)) H := h.flat G (.bl _) rfl
  have hn : (if n then !b else b) = (b != n) := by cases n <;> cases b <;> rfl
  rw [← hn] at fin
  cases dy with
  | str z =>
    cases dx with
    | str a =>
      simp only [inD] at e1
      split at e1
      · rename_i hl
        cases e1
        obtain ⟨rfl, _⟩ := by_.str
        obtain ⟨rfl, _⟩ := bx.str
        have q : V.str a = V.str ⟨#[a.cps.getD 0 0]⟩ := congrArg V.str (sign_of hl)
        cases n with
        | false => exact op_in_sign pins s σ H _ _ v u Q I rx ry ⟨_, _, q, rfl, fin⟩
        | true => exact op_notIn_sign pins s σ H _ _ v u Q I rx ry ⟨_, _, q, rfl, fin⟩
      · cases e1
    | _ => simp only [inD, reduceCtorEq] at e1
  | lst ys =>
    have e1 : (if pureD 50 dx && pureL 50 ys then some (inL dx ys) else none) = some b := by cases dx <;> exact e1
    split at e1
    · rename_i hp
      cases e1
      obtain ⟨p1, p2⟩ := ba hp
      obtain ⟨a1, a2, a3⟩ := bx.dp G.le p1
      obtain ⟨b1, b2, b3⟩ := by_.dp (n := 51) G.le (by simpa only [pureD] using p2)
      rw [inL_any] at fin
      cases n with
      | false => exact op_inD hu pins s σ H _ _ v u Q I rx ry ⟨_, _, by rw [hK]; exact a1, by rw [hK]; exact b1, shaped_of a2 a3 (by decide), shaped_of b2 b3 (by decide), fin⟩
      | true => exact op_notInD hu pins s σ H _ _ v u Q I rx ry ⟨_, _, by rw [hK]; exact a1, by rw [hK]; exact b1, shaped_of a2 a3 (by decide), shaped_of b2 b3 (by decide), fin⟩
    · cases e1
  | tup ys =>
    have e1 : (if flatD dx && ys.all flatD then some (inL dx ys) else none) = some b := by cases dx <;> exact e1
    split at e1
    · rename_i hp
      cases e1
      obtain ⟨p1, p2⟩ := ba hp
      obtain ⟨a, xs, rfl, hs, l, rs⟩ := by_.tup
      have ra := bx.rep (by cases dx <;> first | rfl | cases p1)
      rw [← inV_inL ra p1 rs p2] at fin
      cases n with
      | false => exact op_in_seq pins s σ H _ _ v u Q I rx ry ⟨a, xs, rfl, .inr (by rw [hK]; exact G.le.sqT hs), flat_of ra p1, flats_of rs p2, fin⟩
      | true => exact op_notIn_seq pins s σ H _ _ v u Q I rx ry ⟨a, xs, rfl, .inr (by rw [hK]; exact G.le.sqT hs), flat_of ra p1, flats_of rs p2, fin⟩
    · cases e1
  | dic kvs =>
    have e1 : (if isKey dx then some (lookD dx kvs).isSome else none) = some b := by cases dx <;> exact e1
    split at e1
    · rename_i hk
      cases e1
      obtain ⟨a, xs, rfl, hs, l, rs⟩ := by_.dic G.le
      obtain ⟨k, rfl, rfl, hk2⟩ := DI.key_of hk (bx.rep (by cases dx <;> first | rfl | cases hk))
      rw [← valV_isSome k rs] at fin
      obtain rfl : u = Value.ref a := ry
      cases n with
      | false => exact d_in (by omega) I (DGet.k hs) rx fun s' I' => ⟨.bl (valV xs k).isSome, H, I', rfl, fin⟩
      | true => exact d_notIn (by omega) I (DGet.k hs) rx fun s' I' => ⟨.bl (!(valV xs k).isSome), H, I', rfl, fin⟩
    · cases e1
  | _ => cases dx <;> simp only [inD, reduceCtorEq] at e1
theorem RepKV.app : ∀ {xs ys : List (Key × V)} {ds es : List (D × D)}, RepKV W R F xs ds → RepKV W R F ys es → RepKV W R F (xs ++ ys) (ds ++ es)
  | _, _, _, _, .nil, s => s
  | _, _, _, _, .cons hk a b, s => .cons hk a (RepKV.app b s)
theorem repKV_any (k : Key) : ∀ {kvs : List (Key × V)} {ds : List (D × D)}, RepKV W R F kvs ds → (kvs.any fun kv => decide (kv.1 = k)) = ds.any fun p => eqD p.1 (keyD k)
  | _, _, .nil => rfl
  | _, _, .cons hk a b => by rw [List.any_cons, List.any_cons, repKV_any k b, keyD_eq]
theorem repKV_map (k : Key) {v : V} {d : D} (rv : Rep W R F v d) : ∀ {kvs : List (Key × V)} {ds : List (D × D)}, RepKV W R F kvs ds → RepKV W R F (kvs.map fun kv => if kv.1 = k then (kv.1, v) else kv) (ds.map fun p => if eqD p.1 (keyD k) then (p.1, d) else p)
  | _, _, .nil => .nil
  | _, _, .cons (k := a) hk p q => by
    rw [List.map_cons, List.map_cons]
    simp only [keyD_eq]
    by_cases e : a = k
    · rw [if_pos e, if_pos (decide_eq_true e)]
      exact .cons hk rv (repKV_map k rv q)
    · rw [if_neg e, if_neg (by simpa using e)]
      exact .cons hk p (repKV_map k rv q)
theorem repKV_put {k : Key} {kvs : List (Key × V)} {ds : List (D × D)} {v : V} {d : D} (h : RepKV W R F kvs ds) (hk : ∀ x, k = .inr x → okS x) (rv : Rep W R F v d) : RepKV W R F (putK kvs k v) (putD (keyD k) d ds) := by
  unfold putK putD
  rw [repKV_any k h]
  by_cases e : (ds.any fun p => eqD p.1 (keyD k)) = true
  · rw [if_pos e, if_pos e]; exact repKV_map k rv h
  · rw [if_neg e, if_neg e]; exact h.app (.cons hk rv .nil)
end
end DI
set_option Elab.async false
set_option linter.all false
set_option maxRecDepth 100000
set_option maxHeartbeats 2000000
/-! Sg0: tuple * int, of any kind. -/
namespace DI
open PySem PySem.Spec PyProof.Rows
open L2 hiding ixN
theorem tuple_mulSame (l : Addr) (items : Array Value) (n : Nat) (dd : Option Addr) (sl : Array (Option Value)) (x : Int) (u : Tok) (c0 : (decide (x < -(2 ^ 63)) || decide (x ≥ 2 ^ 63)) = false) (c1 : (items.isEmpty || x == 1) = true) :
    Meets (Builtin.«tuple.__mul__» ⟨[.ref l, .int x u], []⟩) (fun _ R s => s.heap.get? l = some { cls := .type "tuple", dict := dd, data := .seq items n, slots := sl } ∧
      R (.ok (.ret (Value.ref l))) s) :=
  .of_wp fun prog w A R s h => by
    obtain ⟨hp, g, d, tk, os⟩ := s
    obtain ⟨hl, h⟩ := h
    have f1 := AutoSeq1.idx_int
    wp_walk using wpAny_loadPart' hl
    repeat (first
      | (refine wpAny_ite_false (decide_eq_false (by rw [c0]; exact Bool.false_ne_true)) ?_; wp_walk using wpAny_loadPart' hl)
      | (refine wpAny_ite_true (decide_eq_true c1) ?_; wp_walk using wpAny_loadPart' hl))
    all_goals first | exact ⟨_, rfl, h⟩ | exact h
theorem tuple_mulNone (l : Addr) (items : Array Value) (n : Nat) (dd : Option Addr) (sl : Array (Option Value)) (x : Int) (u : Tok) (c0 : (decide (x < -(2 ^ 63)) || decide (x ≥ 2 ^ 63)) = false) (c1 : (items.isEmpty || x == 1) = false) (c2 : (decide (x ≤ 0) || items.isEmpty) = true) :
    Meets (Builtin.«tuple.__mul__» ⟨[.ref l, .int x u], []⟩) (fun _ R s => s.heap.get? l = some { cls := .type "tuple", dict := dd, data := .seq items n, slots := sl } ∧
      R (.ok (.ret (Value.ref s.heap.objs.size))) { s with heap := s.heap.push { cls := Value.type "tuple", data := Data.seq #[] }, toks := s.toks }) :=
  .of_wp fun prog w A R s h => by
    obtain ⟨hp, g, d, tk, os⟩ := s
    obtain ⟨hl, h⟩ := h
    have f1 := AutoSeq1.idx_int
    wp_walk using wpAny_loadPart' hl
    repeat (first
      | (refine wpAny_ite_false (decide_eq_false (by rw [c0]; exact Bool.false_ne_true)) ?_; wp_walk using wpAny_loadPart' hl)
      | (refine wpAny_ite_false (decide_eq_false (by rw [c1]; exact Bool.false_ne_true)) ?_; wp_walk using wpAny_loadPart' hl)
      | (refine wpAny_ite_true (decide_eq_true c2) ?_; wp_walk using wpAny_loadPart' hl))
    all_goals first | exact ⟨_, rfl, h⟩ | exact h
end DI
set_option Elab.async false
set_option linter.all false
set_option maxRecDepth 100000
/-! Sg: products, subscripts, slices, built-in functions and methods by their data. -/
namespace DI
open PySem PySem.Spec PyProof.Rows
open L2 hiding ixN
section
variable {W : Wd} {R : Addr} {Ex : XK} {k : Kd} {F H F' H' : Hp} {v : V} {d : D} {X : Cx}
theorem op_repTA : OpR X (binaryOp .Mult) (fun x y H Q => ∃ l k xs, x = .ref l ∧ y = .int k ∧ SqT X.K H l xs ∧ -1000 ≤ k ∧ k ≤ 1000 ∧ xs.length ≤ 1000 ∧
    ((List.replicate k.toNat xs).flatten = xs → Q (.ref l) H) ∧ ∀ p, H p = none → Q (.ref p) (upd H p (.tup (List.replicate k.toNat xs).flatten))) := by
  intro pins s σ H x y v u Q I rx ry h
  obtain ⟨l, k, xs, rfl, rfl, hT, h0, h2, hz, q1, q⟩ := h
  by_cases hk : xs ≠ [] ∧ 2 ≤ k
  · exact op_repT pins s σ H _ _ v u Q I rx ry ⟨l, k, xs, rfl, rfl, hT, hk.1, hk.2, h2, hz, q⟩
  · cases rx
    obtain ⟨t, rfl⟩ := ry
    obtain ⟨its, r, ⟨⟨cls, dd, data, sl⟩, ho, hc, n, hd⟩, hs⟩ := I.tuple hT
    simp only at hc hd
    subst hc hd
    have hle : its.length = xs.length := r.length.symm
    have hi : its.toArray.isEmpty = xs.isEmpty := by
      cases its with
      | nil => cases r; rfl
      | cons a b => cases r; rfl
    have c0 : (decide (k < -(2 ^ 63)) || decide (k ≥ 2 ^ 63)) = false := by
      rw [decide_eq_false (by omega), decide_eq_false (by omega)] <;> rfl
    by_cases hs1 : (its.toArray.isEmpty || k == 1) = true
    · have e : (List.replicate k.toNat xs).flatten = xs := by
        rcases Bool.or_eq_true_iff.mp hs1 with z | z
        · rw [hi] at z
          have : xs = [] := by simpa using z
          subst this
          simp
        · have : k = 1 := by simpa using z
          subst this
          simp
      exact wpAny_binaryOp_repeat_ref (T := "tuple") (U := "int") (by decide) ⟨_, ho, rfl⟩ (fun s' => typeIs_int s' k t) noFill_tuple_mul F.fills_int_mul F.slot_int_rmul repeat_tuple F.slot_int_index.lookup
        (call_meets F.slot_int_rmul (typeIs_int s k t) F.entry_int_rmul (F.args_int_rmul_2 _ _) (int_rmul_tuple k t l its.toArray n dd sl)
          ⟨ho, rfl, ⟨_, ho, rfl⟩, call_meets F.slot_tuple_mul ⟨_, ho, rfl⟩ F.entry_tuple_mul (F.args_tuple_mul_2 _ _) (tuple_mulSame l its.toArray n dd sl k t c0 hs1) ⟨ho, ⟨.ref l, H, I, rfl, q1 e⟩⟩⟩)
    · have c1 : (its.toArray.isEmpty || k == 1) = false := by simpa using hs1
      have hk0 : k ≤ 0 := by
        obtain ⟨z1, z2⟩ := Bool.or_eq_false_iff.mp c1
        rw [hi] at z1
        have hne : xs ≠ [] := by intro e; subst e; cases z1
        have k1 : k ≠ 1 := by simpa using z2
        have : ¬ 2 ≤ k := fun z => hk ⟨hne, z⟩
        omega
      have c2 : (decide (k ≤ 0) || its.toArray.isEmpty) = true := by rw [decide_eq_true hk0]; rfl
      have e : (List.replicate k.toNat xs).flatten = [] := by
        have : k.toNat = 0 := by omega
        rw [this]; rfl
      rw [e] at q
      refine wpAny_binaryOp_repeat_ref (T := "tuple") (U := "int") (by decide) ⟨_, ho, rfl⟩ (fun s' => typeIs_int s' k t) noFill_tuple_mul F.fills_int_mul F.slot_int_rmul repeat_tuple F.slot_int_index.lookup
        (call_meets F.slot_int_rmul (typeIs_int s k t) F.entry_int_rmul (F.args_int_rmul_2 _ _) (int_rmul_tuple k t l its.toArray n dd sl)
          ⟨ho, rfl, ⟨_, ho, rfl⟩, call_meets F.slot_tuple_mul ⟨_, ho, rfl⟩ F.entry_tuple_mul (F.args_tuple_mul_2 _ _) (tuple_mulNone l its.toArray n dd sl k t c0 c1 c2) ⟨ho, ?_⟩⟩)
      refine ⟨.ref s.heap.objs.size, _, I.laid (t' := s.toks) (o := .tup []) (fun b ob q => Heap.get?_push_of_some _ q) (Nat.le_refl _) ?_, rfl, q _ (I.hok.fresh (Nat.le_refl _))⟩
      exact ⟨Nat.zero_le _, [], .nil, IsTup.new _ _⟩
theorem flat_len {α β : Type} {xs : List α} {ys : List β} (h : xs.length = ys.length) (k : Nat) : ((List.replicate k xs).flatten).length = ((List.replicate k ys).flatten).length := by
  rw [PyProof.Rows.lm_len_rep_flat, PyProof.Rows.lm_len_rep_flat, h]
theorem opD_mul (hK : X.K = W.K) : OpR X (binaryOp .Mult) (rD2 W R Ex .n (opD .mul)) := by
  intro pins s σ H x y v u Q I rx ry ⟨F, r, dx, dy, G, bx, by_, h0⟩
  obtain ⟨d, e, h⟩ := h0.lift_some; clear h0
  cases dx <;> cases dy <;> simp only [opD] at e <;> try (cases e)
  · rename_i i j
    split at e
    · rename_i hj
      cases e
      rw [bx.int] at rx; rw [by_.int] at ry
      exact op_mul pins s σ H _ _ v u Q I rx ry ⟨i, j, rfl, rfl, hj, h.flat G (.int _) rfl⟩
    · cases e
  · rename_i ds j
    split at e
    · rename_i hj
      cases e
      obtain ⟨a, xs, rfl, hs, l, rs⟩ := bx.tup
      rw [by_.int] at ry
      have hl : ((List.replicate j.toNat xs).flatten).length ≤ sizeLine := by
        rw [PyProof.Rows.lm_len_rep_flat, sizeLine_eq, rs.length]
        have := Nat.mul_le_mul (show j.toNat ≤ 1000 by omega) hj.2.2
        omega
      refine op_repTA pins s σ H _ _ v u Q I rx ry ⟨a, j, xs, rfl, rfl, by rw [hK]; exact G.le.sqT hs, hj.1, hj.2.1, by rw [rs.length]; exact hj.2.2, fun e => ?_, fun p hp => h.tup G (rs.rep _) hl hp⟩
      refine h.flat G (.tup hs l ?_) rfl
      have := rs.rep j.toNat
      rw [e] at this
      exact this
    · cases e
  · rename_i ds j
    split at e
    · rename_i hj
      cases e
      obtain ⟨a, xs, rfl, hs, l, rs⟩ := bx.lst G.le
      rw [by_.int] at ry
      refine op_rep pins s σ H _ _ v u Q I rx ry ⟨a, j, xs, rfl, rfl, hs, hj.1, hj.2.1, by rw [rs.length]; exact hj.2.2, fun p hp => h.lst G (rs.rep _) ?_ hp⟩
      rw [PyProof.Rows.lm_len_rep_flat, Nat.mul_comm, rs.length]
      exact hj.2.2
    · cases e
/-- any of them -/
def rOp (W : Wd) (R : Addr) (Ex : XK) (o : Op) : R2 := rD2 W R Ex .n (opD o)
theorem opD_all (hK : X.K = W.K) : ∀ o, OpR X (binaryOp (opO o)) (rOp W R Ex o)
  | .add => opD_add hK
  | .sub => opD_sub
  | .mul => opD_mul hK
  | .mod => opD_mod
  | .fdiv => opD_fdiv
  | .pow => by
    intro pins s σ H x y v u Q I rx ry ⟨F, r, dx, dy, G, bx, by_, h0⟩
    obtain ⟨d, e, h⟩ := h0.lift_some
    cases dx <;> cases dy <;> simp only [opD] at e <;> try (cases e)
    rename_i i j
    split at e
    · rename_i hj
      cases e
      rw [bx.int] at rx; rw [by_.int] at ry
      exact op_pow pins s σ H _ _ v u Q I rx ry ⟨i, j, rfl, rfl, hj, h.flat G (.int _) rfl⟩
    · cases e
def rCmp (W : Wd) (R : Addr) (Ex : XK) (o : Cmp) : R2 := rD2 W R Ex .n fun x y => (cmpD o x y).map .bl
theorem cmpD_all (hK : X.K = W.K) (hu : X.A.units + 64 < cLine) : ∀ o, OpR X (compareOp (cmpO o)) (rCmp W R Ex o)
  | .eq => opD_eq hK hu
  | .ne => opD_ne hK hu
  | .lt => opD_lt hK hu
  | .le => opD_le
  | .gt => opD_gt
  | .ge => opD_ge
  | .is => opD_is
  | .isnt => opD_isnt
theorem unD_neg : UnR X (unaryOp .USub) (fun x H Q => ∃ F r dx, Good W R F H r ∧ BB W R F H x dx ∧ PostE W R Ex .n F H Q (.lift (negD dx) r)) := by
  intro pins s σ H x v Q I rx ⟨F, r, dx, G, bx, h0⟩
  obtain ⟨d, e, h⟩ := h0.lift_some; clear h0
  cases dx <;> simp only [negD, reduceCtorEq] at e
  cases e
  rw [bx.int] at rx
  exact un_neg pins s σ H _ v Q I rx ⟨_, rfl, h.flat G (.int _) rfl⟩
/-! ### subscripts -/
theorem ixN_eq (n : Nat) (i : Int) : DI.ixN n i = L2.ixN n i := rfl
theorem okS_sign {x : Str} (h : okS x) {j : Nat} {c : Nat} (hc : x.cps.toList[j]? = some c) : okS ⟨#[c]⟩ := by
  refine ⟨by show 1 ≤ sizeLine; decide, ?_⟩
  have h2 := h.2
  unfold PyData.strOk at h2 ⊢
  rw [Array.all_eq_true'] at h2
  have : c ∈ x.cps := by
    rw [← Array.mem_toList_iff]
    exact List.mem_of_getElem? hc
  have z := h2 c this
  simpa using z
theorem ixD_ok (hK : X.K = W.K) (hu : X.A.units + 64 < cLine) : IxR X (rD2 W R Ex .c ixD) := by
  intro value slice pins s σ H x y v u Q I rx ry ⟨F, r, dx, dy, G, bx, by_, h0⟩ hs
  obtain ⟨d, e, h⟩ := h0.lift_some; clear h0
  cases dx with
  | tup ds =>
    cases dy <;> simp only [ixD, reduceCtorEq] at e
    rename_i i
    obtain ⟨j, e1, e2⟩ := Option.bind_eq_some_iff.mp e
    obtain ⟨a, xs, rfl, hq, l, rs⟩ := bx.tup
    obtain ⟨z, e3, rz⟩ := rs.get e2
    rw [by_.int] at ry
    exact ix_tup value slice pins s σ H _ _ v u Q I rx ry ⟨a, xs, i, z, rfl, rfl, by rw [hK]; exact G.le.sqT hq, by unfold atI; rw [rs.length, ← ixN_eq, e1]; exact e3, h.flatC G rz⟩ hs
  | lst ds =>
    cases dy <;> simp only [ixD, reduceCtorEq] at e
    rename_i i
    obtain ⟨j, e1, e2⟩ := Option.bind_eq_some_iff.mp e
    obtain ⟨a, xs, rfl, hq, l, rs⟩ := bx.lst G.le
    obtain ⟨z, e3, rz⟩ := rs.get e2
    rw [by_.int] at ry
    exact ix_list value slice pins s σ H _ _ v u Q I rx ry ⟨a, xs, i, z, rfl, rfl, .of hq, by unfold atI; rw [rs.length, ← ixN_eq, e1]; exact e3, h.flatC G rz⟩ hs
  | str z =>
    cases dy <;> simp only [ixD, reduceCtorEq] at e
    rename_i i
    obtain ⟨j, e1, e2⟩ := Option.bind_eq_some_iff.mp e
    obtain ⟨c, e3, e4⟩ := Option.map_eq_some_iff.mp e2
    subst e4
    obtain ⟨rfl, kz⟩ := bx.str
    rw [by_.int] at ry
    refine ix_str value slice pins s σ H _ _ v u Q I rx ry ⟨z, i, c, rfl, rfl, kz.1, ?_, h.flatC G (.str _ (okS_sign kz e3))⟩ hs
    unfold atI
    rw [show z.cps.toList.length = z.length from by rw [Array.length_toList]; rfl, ← ixN_eq, e1]
    exact e3
  | dic kvs =>
    have e : (if isKey dy then lookD dy kvs else none) = some d := by cases dy <;> exact e
    split at e
    · rename_i hk
      obtain ⟨a, xs, rfl, hq, l, rs⟩ := bx.dic G.le
      obtain ⟨k, rfl, rfl, hk2⟩ := DI.key_of hk (by_.rep (by cases dy <;> first | rfl | cases hk))
      obtain ⟨z, e3, rz⟩ := (valV_lookD k rs).1 d e
      obtain rfl : v = Value.ref a := rx
      have g : DGet H a (kV k) (some z) := by rw [← e3]; exact DGet.k hq
      exact tail_any (dict_typeIs I g) slot_dict_getitem.lookup (d_getItem (by omega) I g ry fun w' s3 I3 rw' => ⟨z, H, I3, rw', h.flatC G rz⟩) hs
    · cases e
  | _ => cases dy <;> simp only [ixD, reduceCtorEq] at e
/-! ### slices -/
theorem Reps.cut {xs : List V} {ds : List D} (rs : Reps W R F xs ds) (lo hi : Option Int) : Reps W R F (cutV xs lo hi) (cutL ds lo hi) := by
  unfold cutV cutL
  rw [rs.length]
  exact (rs.drop _).take _
theorem cut_whole {ds : List D} {lo hi : Option Int} (h : HT.sIx ds.length 0 lo = 0 ∧ HT.sIx ds.length ds.length hi = ds.length) : cutL ds lo hi = ds := by
  unfold cutL
  rw [h.1, h.2]; simp
theorem okS_cut {z : Str} (h : okS z) (lo hi : Option Int) : okS (cutS z lo hi) := by
  have hm : ∀ c ∈ (cutS z lo hi).cps.toList, c ∈ z.cps.toList := fun c hc => by
    unfold cutS at hc
    simp only at hc
    exact List.mem_of_mem_drop (List.mem_of_mem_take hc)
  refine ⟨?_, ?_⟩
  · refine Nat.le_trans ?_ h.1
    show (cutS z lo hi).cps.size ≤ z.cps.size
    unfold cutS
    rw [List.size_toArray, ← Array.length_toList]
    rw [List.length_take, List.length_drop]
    exact Nat.le_trans (Nat.min_le_right _ _) (Nat.sub_le _ _)
  · have h2 := h.2
    unfold PyData.strOk at h2 ⊢
    rw [Array.all_eq_true'] at h2 ⊢
    intro c hc
    exact h2 c (Array.mem_toList_iff.mp (hm c (Array.mem_toList_iff.mpr hc)))
theorem slD_ok (hK : X.K = W.K) : SlR X (fun x lo hi H Q => ∃ F r dx, Good W R F H r ∧ BB W R F H x dx ∧ PostE W R Ex .n F H Q (.lift (slD dx lo hi) r)) := by
  intro pins s σ H x v vl vu lo hi sl Q I rx is pl pu ⟨F, r, dx, G, bx, h0⟩
  obtain ⟨d, e, h⟩ := h0.lift_some; clear h0
  cases dx <;> simp only [slD, reduceCtorEq] at e
  · cases e
    obtain ⟨rfl, kz⟩ := bx.str
    exact sl_str pins s σ H _ v vl vu lo hi sl Q I rx is pl pu ⟨_, rfl, kz.1, h.flat G (.str _ (okS_cut kz lo hi)) rfl⟩
  · cases e
    obtain ⟨a, xs, rfl, hq, l, rs⟩ := bx.tup
    refine sl_tupA pins s σ H _ v vl vu lo hi sl Q I rx is pl pu ⟨a, xs, rfl, by rw [hK]; exact G.le.sqT hq, fun hw => ?_, fun _ p hp => h.tup G (rs.cut lo hi) (Nat.le_trans (cutV_length _ _ _) l) hp⟩
    rw [rs.length] at hw
    rw [cut_whole hw] at h
    exact h.flat G (.tup hq l rs) rfl
  · cases e
    obtain ⟨a, xs, rfl, hq, l, rs⟩ := bx.lst G.le
    exact sl_list pins s σ H _ v vl vu lo hi sl Q I rx is pl pu ⟨a, xs, rfl, .of hq, fun p hp => h.lst G (rs.cut lo hi) (Nat.le_trans (cutV_length _ _ _) l) hp⟩
end
end DI
set_option Elab.async false
set_option linter.all false
set_option maxRecDepth 100000
/-! Sh: built-in functions and methods by their data. -/
namespace DI
open PySem PySem.Spec PyProof.Rows
open L2 hiding ixN
section
variable {W : Wd} {R : Addr} {Ex : XK} {k : Kd} {F H F' H' : Hp} {v : V} {d : D} {X : Cx}
def rDn (W : Wd) (R : Addr) (Ex : XK) (k : Kd) (g : List D → Option D) : List V → Hp → VK → Prop := fun vs H Q => ∃ F r ds, Good W R F H r ∧ PKs W R .b H F H vs ds ∧ PostE W R Ex k F H Q (.lift (g ds) r)
theorem BB.of (h : PK W R .b H F H v d) : BB W R F H v d := by
  refine h.imp id fun z => ?_
  rcases z with ⟨p, xs, ds, a, b, c, d, e, f, i, j⟩ | ⟨p, xs, ds, a, b, c, d, e, f, i, j⟩
  · exact .inl ⟨p, xs, ds, a, b, c, d, e, f, i, fun z => nomatch z⟩
  · exact .inr ⟨p, xs, ds, a, b, c, d, e, f, i, fun z => nomatch z⟩
theorem PKs.one {vs : List V} {d : D} (h : PKs W R k H F' H' vs [d]) : ∃ v, vs = [v] ∧ PK W R k H F' H' v d := by
  cases h with | cons a b => cases b; exact ⟨_, rfl, a⟩
theorem PKs.two {vs : List V} {d e : D} (h : PKs W R k H F' H' vs [d, e]) : ∃ v u, vs = [v, u] ∧ PK W R k H F' H' v d ∧ PK W R k H F' H' u e := by
  cases h with | cons a b => cases b with | cons c d => cases d; exact ⟨_, _, rfl, a, c⟩
theorem bools_of : ∀ {xs : List V} {ds : List D} {bs : List Bool}, bools ds = some bs → Reps W R F xs ds → xs = bs.map V.bl
  | _, [], _, h, .nil => by cases h; rfl
  | _, .bl b :: r, bs, h, .cons a q => by
    obtain ⟨l, e1, e2⟩ := Option.map_eq_some_iff.mp (show (bools r).map (b :: ·) = some bs from h)
    subst e2
    cases a
    rw [bools_of e1 q]; rfl
theorem ints_of : ∀ {xs : List V} {ds : List D} {bs : List Int}, intsD ds = some bs → Reps W R F xs ds → xs = bs.map V.int
  | _, [], _, h, .nil => by cases h; rfl
  | _, .int b :: r, bs, h, .cons a q => by
    obtain ⟨l, e1, e2⟩ := Option.map_eq_some_iff.mp (show (intsD r).map (b :: ·) = some bs from h)
    subst e2
    cases a
    rw [ints_of e1 q]; rfl
theorem strs_of : ∀ {xs : List V} {ds : List D} {bs : List Str}, strsD ds = some bs → Reps W R F xs ds → xs = bs.map V.str ∧ ∀ x ∈ bs, okS x
  | _, [], _, h, .nil => by cases h; exact ⟨rfl, fun _ h => by cases h⟩
  | _, .str b :: r, bs, h, .cons a q => by
    obtain ⟨l, e1, e2⟩ := Option.map_eq_some_iff.mp (show (strsD r).map (b :: ·) = some bs from h)
    subst e2
    obtain ⟨h1, h2⟩ := strs_of e1 q
    cases a with
    | str _ ha =>
      rw [h1]
      exact ⟨rfl, fun x hx => by
        rcases List.mem_cons.mp hx with rfl | hx
        · exact ha
        · exact h2 x hx⟩
theorem okS_of {x : Str} (h : okB x = true) : okS x := let ⟨a, b⟩ := ba h; ⟨of_decide_eq_true a, b⟩
theorem bi_len (hK : X.K = W.K) : CallR X (.builtin "len") (rDn W R Ex .n (biD .len)) := by
  intro pins s σ H vs us Q I r ⟨F, ρ, ds, G, ps, h0⟩
  obtain ⟨d, e, h⟩ := h0.lift_some; clear h0
  match ds, e with
  | [.str x], e =>
    cases e
    obtain ⟨v, rfl, p⟩ := ps.one
    obtain ⟨rfl, kx⟩ := (BB.of p).str
    exact call_len pins s σ H _ us Q I r ⟨_, x.length, rfl, ⟨kx.1, rfl⟩, h.flat G (.int _) rfl⟩
  | [.tup ds], e =>
    cases e
    obtain ⟨v, rfl, p⟩ := ps.one
    obtain ⟨a, xs, rfl, hs, l, rs⟩ := (BB.of p).tup
    refine call_len pins s σ H _ us Q I r ⟨_, xs.length, rfl, .inr ⟨xs, by rw [hK]; exact G.le.sqT hs, rfl⟩, ?_⟩
    rw [rs.length]
    exact h.flat G (.int _) rfl
  | [.lst ds], e =>
    cases e
    obtain ⟨v, rfl, p⟩ := ps.one
    obtain ⟨a, xs, rfl, hs, l, rs⟩ := (BB.of p).lst G.le
    refine call_len pins s σ H _ us Q I r ⟨_, xs.length, rfl, .inl ⟨xs, .of hs, rfl⟩, ?_⟩
    rw [rs.length]
    exact h.flat G (.int _) rfl
theorem bi_list (hK : X.K = W.K) : CallR X (.type "list") (rDn W R Ex .n (biD .list)) := by
  intro pins s σ H vs us Q I r ⟨F, ρ, ds, G, ps, h0⟩
  obtain ⟨d, e, h⟩ := h0.lift_some; clear h0
  match ds, e with
  | [.tup ds], e =>
    cases e
    obtain ⟨v, rfl, p⟩ := ps.one
    obtain ⟨a, xs, rfl, hs, l, rs⟩ := (BB.of p).tup
    exact call_list_of pins s σ H _ us Q I r ⟨a, xs, rfl, .inr (by rw [hK]; exact G.le.sqT hs), fun p hp => h.lst G rs l hp⟩
  | [.lst ds], e =>
    cases e
    obtain ⟨v, rfl, p⟩ := ps.one
    obtain ⟨a, xs, rfl, hs, l, rs⟩ := (BB.of p).lst G.le
    exact call_list_of pins s σ H _ us Q I r ⟨a, xs, rfl, .inl (.of hs), fun p hp => h.lst G rs l hp⟩
theorem bi_tuple (hK : X.K = W.K) : CallR X (.type "tuple") (rDn W R Ex .n (biD .tuple)) := by
  intro pins s σ H vs us Q I r ⟨F, ρ, ds, G, ps, h0⟩
  obtain ⟨d, e, h⟩ := h0.lift_some; clear h0
  match ds, e with
  | [.tup ds], e =>
    cases e
    obtain ⟨v, rfl, p⟩ := ps.one
    obtain ⟨a, xs, rfl, hs, l, rs⟩ := (BB.of p).tup
    exact call_tuple_of pins s σ H _ us Q I r ⟨a, xs, rfl, .inr ⟨by rw [hK]; exact G.le.sqT hs, h.flat G (.tup hs l rs) rfl⟩⟩
  | [.lst ds], e =>
    cases e
    obtain ⟨v, rfl, p⟩ := ps.one
    obtain ⟨a, xs, rfl, hs, l, rs⟩ := (BB.of p).lst G.le
    exact call_tuple_of pins s σ H _ us Q I r ⟨a, xs, rfl, .inl ⟨.of hs, fun p hp => h.tup G rs l hp⟩⟩
theorem bi_all (hc : X.calm = true) : CallR X (.builtin "all") (rDn W R Ex .n (biD .all)) := by
  intro pins s σ H vs us Q I r ⟨F, ρ, ds, G, ps, h0⟩
  obtain ⟨d, e, h⟩ := h0.lift_some; clear h0
  match ds, e with
  | [.lst ds], e =>
    obtain ⟨bs, e1, e2⟩ := Option.map_eq_some_iff.mp (show (bools ds).map (fun bs => D.bl (bs.all id)) = some d from e)
    subst e2
    obtain ⟨v, rfl, p⟩ := ps.one
    obtain ⟨a, xs, rfl, hs, l, rs⟩ := (BB.of p).lst G.le
    rw [bools_of e1 rs] at hs
    exact cr_all hc pins s σ H _ us Q I r ⟨a, bs, rfl, .of hs, h.flat G (.bl _) rfl⟩
theorem bi_any (hc : X.calm = true) : CallR X (.builtin "any") (rDn W R Ex .n (biD .any)) := by
  intro pins s σ H vs us Q I r ⟨F, ρ, ds, G, ps, h0⟩
  obtain ⟨d, e, h⟩ := h0.lift_some; clear h0
  match ds, e with
  | [.lst ds], e =>
    obtain ⟨bs, e1, e2⟩ := Option.map_eq_some_iff.mp (show (bools ds).map (fun bs => D.bl (bs.any id)) = some d from e)
    subst e2
    obtain ⟨v, rfl, p⟩ := ps.one
    obtain ⟨a, xs, rfl, hs, l, rs⟩ := (BB.of p).lst G.le
    rw [bools_of e1 rs] at hs
    exact cr_any hc pins s σ H _ us Q I r ⟨a, bs, rfl, .of hs, h.flat G (.bl _) rfl⟩
theorem bi_sum (hc : X.calm = true) : CallR X (.builtin "sum") (rDn W R Ex .n (biD .sum)) := by
  intro pins s σ H vs us Q I r ⟨F, ρ, ds, G, ps, h0⟩
  obtain ⟨d, e, h⟩ := h0.lift_some; clear h0
  match ds, e with
  | [.lst ds], e =>
    obtain ⟨bs, e1, e2⟩ := Option.map_eq_some_iff.mp (show (intsD ds).map (fun bs => D.int bs.sum) = some d from e)
    subst e2
    obtain ⟨v, rfl, p⟩ := ps.one
    obtain ⟨a, xs, rfl, hs, l, rs⟩ := (BB.of p).lst G.le
    rw [ints_of e1 rs] at hs
    exact cr_sum hc pins s σ H _ us Q I r ⟨a, bs, rfl, .of hs, h.flat G (.int _) rfl⟩
theorem bi_max2 (hc : X.calm = true) : CallR X (.builtin "max") (rDn W R Ex .n (biD .max2)) := by
  intro pins s σ H vs us Q I r ⟨F, ρ, ds, G, ps, h0⟩
  obtain ⟨d, e, h⟩ := h0.lift_some; clear h0
  match ds, e with
  | [.int i, .int j], e =>
    cases e
    obtain ⟨v, u, rfl, p, q⟩ := ps.two
    rw [(BB.of p).int, (BB.of q).int] at r
    exact call_max2 hc pins s σ H _ us Q I r ⟨i, j, rfl, h.flat G (.int _) rfl⟩
theorem bi_min2 (hc : X.calm = true) : CallR X (.builtin "min") (rDn W R Ex .n (biD .min2)) := by
  intro pins s σ H vs us Q I r ⟨F, ρ, ds, G, ps, h0⟩
  obtain ⟨d, e, h⟩ := h0.lift_some; clear h0
  match ds, e with
  | [.int i, .int j], e =>
    cases e
    obtain ⟨v, u, rfl, p, q⟩ := ps.two
    rw [(BB.of p).int, (BB.of q).int] at r
    exact call_min2 hc pins s σ H _ us Q I r ⟨i, j, rfl, h.flat G (.int _) rfl⟩
theorem bi_int : CallR X (.type "int") (rDn W R Ex .n (biD .int)) := by
  intro pins s σ H vs us Q I r ⟨F, ρ, ds, G, ps, h0⟩
  obtain ⟨d, e, h⟩ := h0.lift_some; clear h0
  match ds, e with
  | [.int i], e =>
    cases e
    obtain ⟨v, rfl, p⟩ := ps.one
    rw [(BB.of p).int] at r
    exact call_int1 pins s σ H _ us Q I r (.inl ⟨i, rfl, h.flat G (.int _) rfl⟩)
theorem bi_str : CallR X (.type "str") (rDn W R Ex .n (biD .str)) := by
  intro pins s σ H vs us Q I r ⟨F, ρ, ds, G, ps, h0⟩
  obtain ⟨d, e, h⟩ := h0.lift_some; clear h0
  match ds, e with
  | [.int i], e =>
    have e : (if i.natAbs.log2 < 1920 ∧ okB (toString i : String) = true then some (D.str (toString i : String)) else none) = some d := e
    split at e
    · rename_i hi
      cases e
      obtain ⟨v, rfl, p⟩ := ps.one
      rw [(BB.of p).int] at r
      exact call_str_int pins s σ H _ us Q I r ⟨i, rfl, hi.1, h.flat G (.str _ (okS_of hi.2)) rfl⟩
    · cases e
/-! ### methods -/
def rMt (W : Wd) (R : Addr) (Ex : XK) (k : Kd) (m : Mt) : V → List V → Hp → VK → Prop := fun x vs H Q => ∃ F r dx ds, Good W R F H r ∧ BB W R F H x dx ∧ PKs W R .b H F H vs ds ∧ PostE W R Ex k F H Q (.lift (mtD m dx ds) r)
end
end DI
set_option Elab.async false
set_option linter.all false
set_option maxRecDepth 100000
/-! Si: loops over lists and tuples alike: plain, by enumerate, by zip of two and of three. -/
namespace DI
open PySem PySem.Spec PyProof.Rows
open L2 hiding ixN
open AutoSeq1 (wpAny_loadPart')

set_option maxHeartbeats 1000000 in
theorem meets_enum_newB {v : Value} {o : Obj} {H : Heap → Prop} (B : Begins v o H) :
    Meets (Builtin.«enumerate.__new__» ⟨[.type "enumerate", v], []⟩) (fun _ R s => H s.heap ∧
      R (.ok (.ret (.ref (s.heap.push o).objs.size))) { s with heap := (s.heap.push o).push { cls := .type "enumerate", data := .fields #[.none, .bool false, .ref s.heap.objs.size, rawInt 0, .none, .none] } }) :=
  .of_wp fun prog w A R s h => by
    obtain ⟨hp, g, d, tk, os⟩ := s; obtain ⟨h1, h⟩ := h
    have hsub := sub_enumerate
    have q1 : ∀ {A' : Around} {E : Value → Shared → Prop} {Q : Value → Shared → Prop}, Q (.ref hp.objs.size) ⟨hp.push o, g, d, tk, os⟩ → wpAny (model prog w) A' (pyIter v) Q E ⟨hp, g, d, tk, os⟩ :=
      fun q => B.iter prog w _ _ ⟨hp, g, d, tk, os⟩ _ h1 q
    wp_walk using q1
    refine wpAny_stack_any fun st => wpAny_pure ?_
    split
    · rename_i c _ _ _ _ _
      cases (c == Value.type "enumerate")
      · wp_walk using q1
        exact ⟨_, rfl, h⟩
      · wp_walk using q1
        exact ⟨_, rfl, h⟩
    · wp_walk using q1
      exact ⟨_, rfl, h⟩
section
variable {prog : Program} {w : World} {A : Around} {E : Value → Shared → Prop} {s : Shared}
theorem enum_begins1 {v : Value} {o : Obj} {H : Heap → Prop} {Q : Value → Shared → Prop} (B : Begins v o H) (h1 : H s.heap)
    (h : ∀ h', IsEnum h' (s.heap.objs.size + 1) s.heap.objs.size 0 .none → h'.get? s.heap.objs.size = some o → h'.objs.size = s.heap.objs.size + 2 →
      (∀ b o, s.heap.get? b = some o → h'.get? b = some o) → Q (.ref (s.heap.objs.size + 1)) { s with heap := h' }) :
    wpAny (model prog w) A (call (.type "enumerate") [v]) Q E s := by
  refine callType_new F.called_enumerate (by decide) (F.typeCall_enumerate_1 _) (F.newCall_enumerate_1 _) (fun obj => F.args_object_init_2 obj _) F.entry_enumerate_new
    (meets_enum_newB B) ⟨h1, ?_⟩
  have hz : (s.heap.push o).objs.size = s.heap.objs.size + 1 := Heap.size_push ..
  show _ ∧ _
  rw [hz]
  have he : IsEnum ((s.heap.push o).push { cls := .type "enumerate", data := .fields #[.none, .bool false, .ref s.heap.objs.size, rawInt 0, .none, .none] }) (s.heap.objs.size + 1) s.heap.objs.size 0 .none := by
    have := Heap.get?_push_size (s.heap.push o) (o := { cls := .type "enumerate", data := .fields #[.none, .bool false, .ref s.heap.objs.size, rawInt 0, .none, .none] }) rfl
    rw [hz] at this; exact this
  refine ⟨⟨_, he, rfl⟩, h _ he (Heap.get?_push_of_some _ (Heap.get?_push_size _ B.free)) (by rw [Heap.size_push, hz]) fun b o x => Heap.get?_push_of_some _ (Heap.get?_push_of_some _ x)⟩
end

/-- a list or a tuple -/
inductive Src where | l (a : Addr) | t (a : Addr)
def Src.ad : Src → Addr
  | .l a => a
  | .t a => a
def SqS (K : PySem.W.Frag) (H : Hp) : Src → List V → Prop
  | .l a, xs => SqL K H a xs
  | .t a, xs => SqT K H a xs
def itAt : Src → Heap → Addr → Nat → Prop
  | .l a, h, it, i => h.IsListIter it a i
  | .t a, h, it, i => h.IsTupleIter it a i
def seqAt : Src → Heap → Array Value → Prop
  | .l a, h, its => h.IsList a its
  | .t a, h, its => h.IsTuple a its
def Src.obj : Src → Obj
  | .l a => { cls := .type "list_iterator", data := .fields #[.ref a, .int 0 0] }
  | .t a => { cls := .type "tuple_iterator", data := .fields #[.ref a, .int 0 0] }
section
variable {X : Cx} {pins : List (Addr × Obj)} {σ : L2.St} {H : Hp} {s : Shared} {z : Src} {xs ys : List V} {h h' : Heap} {it : Addr} {i : Nat}
theorem src_seq (I : Inv X pins σ H s) (q : SqS X.K H z xs) : ∃ its : List Value, Vals xs its ∧ seqAt z s.heap its.toArray ∧ xs.length ≤ sizeLine := by
  cases z with
  | l a => obtain ⟨its, r, p, l⟩ := I.list q; exact ⟨its, r, p.isList, l⟩
  | t a => obtain ⟨its, r, p, l⟩ := I.tuple q; exact ⟨its, r, p, l⟩
theorem src_inj (I : Inv X pins σ H s) (q : SqS X.K H z xs) (q' : SqS X.K H z ys) : xs = ys := by
  cases z with
  | l a => exact I.list_inj q q'
  | t a => exact I.tuple_inj q q'
theorem src_lt {its : Array Value} (q : seqAt z h its) : z.ad < h.objs.size := by
  cases z with
  | l a => obtain ⟨_, q, _⟩ := q; exact Heap.lt_size q
  | t a => obtain ⟨_, q, _⟩ := q; exact Heap.lt_size q
theorem itAt.at (q : itAt z h it i) (k : ∀ o, h.get? it = some o → h'.get? it = some o) : itAt z h' it i := by
  cases z with
  | l a => exact Heap.IsListIter.at q k
  | t a => exact Heap.IsTupleIter.at q k
theorem itAt.obj (q : itAt z h it i) : ∃ o, h.get? it = some o ∧ ∀ v, o.data ≠ .cell v := by
  cases z with
  | l a => obtain ⟨o, e, c, d⟩ := q; exact ⟨o, e, fun v n => by rw [d] at n; cases n⟩
  | t a => obtain ⟨o, e, c, d⟩ := q; exact ⟨o, e, fun v n => by rw [d] at n; cases n⟩
theorem itAt.new (q : h.get? it = some z.obj) : itAt z h it 0 := by
  cases z with
  | l a => exact ⟨_, q, rfl, rfl⟩
  | t a => exact ⟨_, q, rfl, rfl⟩
theorem src_begins (its : Array Value) : Begins (.ref z.ad) z.obj fun h => seqAt z h its := by
  cases z with
  | l a => exact begins_list a its
  | t a => exact begins_tuple a its
theorem src_draws {prog : Program} {w : World} {A : Around} (hh : A.handled = none) (hne : z.ad ≠ it) (its : Array Value) :
    Draws prog w A it [it, z.ad] its.size (fun i v => its[i]? = some v) (fun i h => itAt z h it i ∧ seqAt z h its) := by
  cases z with
  | l a => exact Draws.list hh it a hne its
  | t a => exact Draws.tuple hh it a hne its
end
theorem get_of {xs : List V} {its : List Value} (r : Vals xs its) {i : Nat} {x : V} (h : xs[i]? = some x) {u : Value} (hu : its.toArray[i]? = some u) : RelV x u := by
  obtain ⟨u', h1, r1⟩ := r.get h
  have : its[i]? = some u := by simpa using hu
  rw [h1] at this
  cases this
  exact r1
/-- enumerate -/
def IteS (K : PySem.W.Frag) (z : Src) : It :=
  ⟨fun i H => ∃ (xs : List V) (x : V), SqS K H z xs ∧ xs[i]? = some x, fun i H v H' => ∃ T x, v = .ref T ∧ H T = none ∧ H' = upd H T (.tup [.int (i : Nat), x]) ∧ ∀ xs, SqS K H z xs → xs[i]? = some x, fun i H => ∃ xs : List V, SqS K H z xs ∧ xs.length = i⟩
theorem turn_enumS {P : Program} {w : World} {K : PySem.W.Frag} {elts : List Expr} {kk : Nat} {tpos : Pos} (z : Src) (e it : Addr) :
    Turn P w K (.Tuple elts kk tpos) (IteS K z) [e, it] e (fun i h => ((∃ old, IsEnum h e it ((i : Nat) : Int) old) ∧ itAt z h it i) ∧ e ≠ it ∧ z.ad ≠ e ∧ z.ad ≠ it) where
  mem := by simp
  obj := fun i h st b hb => by
    obtain ⟨⟨⟨old, he⟩, hi⟩, _⟩ := st
    have e' : b = e ∨ b = it := by simpa using hb
    rcases e' with q | q
    · rw [q]; exact ⟨_, he, fun v q => nomatch q⟩
    · rw [q]; exact hi.obj
  keep := fun i h h' st k => let ⟨⟨⟨old, he⟩, hi⟩, hne⟩ := st; ⟨⟨⟨old, k e (by simp) _ he⟩, hi.at fun o q => k it (by simp) o q⟩, hne⟩
  item := by
    intro X hP hw hK hc i pins s σ H E I hf st hg
    subst hP hw hK
    obtain ⟨⟨⟨old, he⟩, hit⟩, hne, ha1, ha2⟩ := st
    obtain ⟨xs, x, hq, hx⟩ := hg
    obtain ⟨its, rv, p, hz⟩ := src_seq I hq
    have hd : X.A.in1.handled = none := I.ok.hd hc
    have W := GoesN.enumFrom (elts := elts) (x1 := kk) (pos := tpos) 0 (src_draws (prog := X.prog) (w := X.w) hd ha2 its.toArray) e hne (by simp [hne, ha1.symm]) (by simp)
    have hi : i < its.toArray.size := by
      have := (List.getElem?_eq_some_iff.mp hx).1
      rw [List.size_toArray, ← rv.length]; exact this
    refine W.goes i s _ _ hi ⟨⟨old, by rw [Int.zero_add]; exact he⟩, hit, p⟩ fun v h' tk hY st' hk htk => ?_
    obtain ⟨T, t, u, rfl, hT, hu, oT, hoT, cT, nT, dT⟩ := hY
    obtain ⟨⟨old', he'⟩, hit', hsq'⟩ := st'
    have new : ObjOk X.prog X.w (upd H T (.tup [.int (i : Nat), x])) h' T (.tup [.int (i : Nat), x]) :=
      ⟨by show 2 ≤ sizeLine; decide, [.int i t, u], .cons ⟨_, rfl⟩ (.cons (get_of rv hx hu) .nil), ⟨oT, hoT, cT, nT, by rw [dT, Int.zero_add]⟩⟩
    have I1 := I.turnedNew (t' := tk) (ch := [e, it]) hk hf hT new
    refine ⟨.ref T, _, I1, rfl, ⟨T, x, rfl, I.hok.fresh hT, rfl, fun ys hy => by rw [src_inj I hy hq]; exact hx⟩, ⟨⟨⟨old', by rw [Int.zero_add] at he'; exact he'⟩, hit'⟩, hne, ha1, ha2⟩, fun b hb => ?_⟩
    have hb' : b < s.heap.objs.size := by
      have e' : b = e ∨ b = it := by simpa using hb
      rcases e' with q | q
      · rw [q]; exact Heap.lt_size he
      · rw [q]; obtain ⟨o, ho, _⟩ := hit.obj; exact Heap.lt_size ho
    rw [upd_ne (Nat.ne_of_lt (Nat.lt_of_lt_of_le hb' hT))]
    exact (hf b hb).1
  done := by
    intro X hP hw hK hc i pins s σ H E I hf st hg
    subst hP hw hK
    obtain ⟨⟨⟨old, he⟩, hit⟩, hne, ha1, ha2⟩ := st
    obtain ⟨xs, hq, hx⟩ := hg
    obtain ⟨its, rv, p, hz⟩ := src_seq I hq
    have hd : X.A.in1.handled = none := I.ok.hd hc
    have W := GoesN.enumFrom (elts := elts) (x1 := kk) (pos := tpos) 0 (src_draws (prog := X.prog) (w := X.w) hd ha2 its.toArray) e hne (by simp [hne, ha1.symm]) (by simp)
    have hi : i = its.toArray.size := by rw [List.size_toArray, ← rv.length, hx]
    subst hi
    exact W.stops s _ _ ⟨⟨old, by rw [Int.zero_add]; exact he⟩, hit, p⟩ fun h' tk hk htk => I.turnedL (t' := tk) (ch := [e, it]) hk hf
  self := fun A i s Q E st h => let ⟨⟨⟨_, he⟩, _⟩, _⟩ := st; wpAny_pyIter_enum he h
def iEnumS (K : PySem.W.Frag) (ta : TA) : TI := fun σ H R => ta σ H fun vs H1 => ∃ z xs, vs = [.ref (Src.ad z)] ∧ SqS K H1 z xs ∧ R (IteS K z) H1
theorem pi_enumS {X : Cx} {e : Expr} {ta : TA} {p pos tpos : Pos} {elts : List Expr} {kk : Nat} (hg : Gl X "enumerate") (hm : X.mg "enumerate" = none) (ha : PA X [e] ta) (hs : starEach [e] X.env = [(false, eval e X.env)]) :
    PI X (.Tuple elts kk tpos) (.Call (.Name "enumerate" p) [e] [] pos) (iEnumS X.K ta) := by
  refine ⟨fun pins s σ H R I h => ?_⟩
  refine Call_ (ld_blt I hg hm boot_enumerate (PyProof.Rows.callWith_type1 (thn (ha.run pos pins s σ H _ I h) fun us s1 ⟨vs, H1, I1, r1, q1⟩ => ?_) hs rfl))
  obtain ⟨z, xs, ex, hq, q⟩ := q1
  subst ex
  cases r1 with
  | cons r rr =>
    cases rr
    cases r
    obtain ⟨its, rv, p', hz⟩ := src_seq I1 hq
    refine enum_begins1 (src_begins its.toArray) p' fun h' he hit hsz hk => wpAny_pyIter_enum he ?_
    have I2 : Inv X pins σ H1 { s1 with heap := h' } := I1.kept (t' := s1.toks) hk
    have hl := src_lt p'
    refine ⟨s1.heap.objs.size + 1, [s1.heap.objs.size + 1, s1.heap.objs.size], _, _, H1, rfl, I2, turn_enumS z (s1.heap.objs.size + 1) s1.heap.objs.size, ⟨⟨⟨.none, he⟩, .new hit⟩, Nat.succ_ne_self _, Nat.ne_of_lt (Nat.lt_succ_of_lt hl), Nat.ne_of_lt hl⟩, fun b hb => ?_, q⟩
    have e' : b = s1.heap.objs.size + 1 ∨ b = s1.heap.objs.size := by simpa using hb
    have hle : s1.heap.objs.size ≤ b := by
      rcases e' with z | z
      · rw [z]; exact Nat.le_add_right _ _
      · rw [z]; exact Nat.le_refl _
    exact I1.fpOk hle (I1.hok.fresh hle)
/-- zip of two -/
def ItzS (K : PySem.W.Frag) (z1 z2 : Src) : It :=
  ⟨fun i H => ∃ (xs ys : List V) (x y : V), SqS K H z1 xs ∧ SqS K H z2 ys ∧ xs[i]? = some x ∧ ys[i]? = some y,
    fun i H v H' => ∃ T x y, v = .ref T ∧ H T = none ∧ H' = upd H T (.tup [x, y]) ∧ (∀ xs, SqS K H z1 xs → xs[i]? = some x) ∧ ∀ ys, SqS K H z2 ys → ys[i]? = some y,
    fun i H => ∃ xs ys : List V, SqS K H z1 xs ∧ SqS K H z2 ys ∧ i = min xs.length ys.length⟩
theorem turn_zipS {P : Program} {w : World} {K : PySem.W.Frag} {elts : List Expr} {kk : Nat} {tpos : Pos} (z1 z2 : Src) {z TI TO i1 i2 : Addr} (D : ZipSep2 z TI TO i1 i2 [i1, z1.ad] [i2, z2.ad]) :
    Turn P w K (.Tuple elts kk tpos) (ItzS K z1 z2) [z, TI, TO, i1, i2] z (fun i h => (IsZip h z TI TO .none ∧ IsTupOf2 h TI (.ref i1) (.ref i2) ∧ (∃ x y, IsTupOf2 h TO x y) ∧ itAt z1 h i1 i ∧ itAt z2 h i2 i) ∧ z1.ad ≠ i1 ∧ z2.ad ≠ i2) where
  mem := by simp
  obj := fun i h st c hc => by
    obtain ⟨⟨hz, hTI, ⟨x, y, hTO⟩, h1, h2⟩, _⟩ := st
    have e' : c = z ∨ c = TI ∨ c = TO ∨ c = i1 ∨ c = i2 := by simpa using hc
    rcases e' with q | q | q | q | q
    · rw [q]; exact ⟨_, hz, fun v q => nomatch q⟩
    · rw [q]; exact ⟨_, hTI, fun v q => nomatch q⟩
    · rw [q]; exact ⟨_, hTO, fun v q => nomatch q⟩
    · rw [q]; exact h1.obj
    · rw [q]; exact h2.obj
  keep := fun i h h' st k => by
    obtain ⟨⟨hz, hTI, ⟨x, y, hTO⟩, h1, h2⟩, hn⟩ := st
    exact ⟨⟨k z (by simp) _ hz, k TI (by simp) _ hTI, ⟨x, y, k TO (by simp) _ hTO⟩, h1.at fun o q => k i1 (by simp) o q, h2.at fun o q => k i2 (by simp) o q⟩, hn⟩
  item := by
    intro X hP hw hK hc i pins s σ H E I hf st hg
    subst hP hw hK
    obtain ⟨⟨hz, hTI, ⟨x0, y0, hTO⟩, h1, h2⟩, n1, n2⟩ := st
    obtain ⟨xs, ys, x, y, hqx, hqy, hx, hy⟩ := hg
    obtain ⟨its, rv, p, _⟩ := src_seq I hqx
    obtain ⟨its2, rv2, p2, _⟩ := src_seq I hqy
    have hd : X.A.in1.handled = none := I.ok.hd hc
    have W := GoesN.zip2 (elts := elts) (x1 := kk) (pos := tpos) D (src_draws (prog := X.prog) (w := X.w) hd n1 its.toArray) (src_draws (prog := X.prog) (w := X.w) hd n2 its2.toArray)
    have hi : i < min its.toArray.size its2.toArray.size := by
      have e1 := (List.getElem?_eq_some_iff.mp hx).1
      have e2 := (List.getElem?_eq_some_iff.mp hy).1
      rw [List.size_toArray, List.size_toArray, ← rv.length, ← rv2.length]
      exact Nat.lt_min.mpr ⟨e1, e2⟩
    refine W.goes i s _ _ hi ⟨hz, hTI, ⟨x0, y0, hTO⟩, ⟨h1, p⟩, ⟨h2, p2⟩⟩ fun v h' tk hY st' hk htk => ?_
    obtain ⟨T, u, u2, rfl, hT, hu, hu2, oT, hoT, cT, nT, dT⟩ := hY
    obtain ⟨hz', hTI', hTO', ⟨h1', _⟩, h2', _⟩ := st'
    have new : ObjOk X.prog X.w (upd H T (.tup [x, y])) h' T (.tup [x, y]) :=
      ⟨by show 2 ≤ sizeLine; decide, [u, u2], .cons (get_of rv hx hu) (.cons (get_of rv2 hy hu2) .nil), ⟨oT, hoT, cT, nT, dT⟩⟩
    have I1 := I.turnedNew (t' := tk) (ch := [z, TI, TO, i1, i2]) (fun b o hb q => hk b o (fun q' => hb (by simp at q'; rcases q' with q' | q' | q' | q' <;> simp [q'])) q) hf hT new
    refine ⟨.ref T, _, I1, rfl, ⟨T, x, y, rfl, I.hok.fresh hT, rfl, fun l hl => by rw [src_inj I hl hqx]; exact hx, fun l hl => by rw [src_inj I hl hqy]; exact hy⟩, ⟨⟨hz', hTI', hTO', h1', h2'⟩, n1, n2⟩, fun c hcm => ?_⟩
    have hlt : c < s.heap.objs.size := by
      have e' : c = z ∨ c = TI ∨ c = TO ∨ c = i1 ∨ c = i2 := by simpa using hcm
      rcases e' with q | q | q | q | q
      · rw [q]; exact Heap.lt_size hz
      · rw [q]; exact Heap.lt_size hTI
      · rw [q]; exact Heap.lt_size hTO
      · rw [q]; obtain ⟨_, e1, _⟩ := h1.obj; exact Heap.lt_size e1
      · rw [q]; obtain ⟨_, e2, _⟩ := h2.obj; exact Heap.lt_size e2
    rw [upd_ne (Nat.ne_of_lt (Nat.lt_of_lt_of_le hlt hT))]
    exact (hf c hcm).1
  done := by
    intro X hP hw hK hc i pins s σ H E I hf st hg
    subst hP hw hK
    obtain ⟨⟨hz, hTI, ⟨x0, y0, hTO⟩, h1, h2⟩, n1, n2⟩ := st
    obtain ⟨xs, ys, hqx, hqy, hend⟩ := hg
    obtain ⟨its, rv, p, _⟩ := src_seq I hqx
    obtain ⟨its2, rv2, p2, _⟩ := src_seq I hqy
    have hd : X.A.in1.handled = none := I.ok.hd hc
    have W := GoesN.zip2 (elts := elts) (x1 := kk) (pos := tpos) D (src_draws (prog := X.prog) (w := X.w) hd n1 its.toArray) (src_draws (prog := X.prog) (w := X.w) hd n2 its2.toArray)
    have hi : i = min its.toArray.size its2.toArray.size := by rw [List.size_toArray, List.size_toArray, ← rv.length, ← rv2.length, hend]
    subst hi
    exact W.stops s _ _ ⟨hz, hTI, ⟨x0, y0, hTO⟩, ⟨h1, p⟩, ⟨h2, p2⟩⟩ fun h' tk hk htk => I.turnedL (t' := tk) (ch := [z, TI, TO, i1, i2]) (fun b o hb q => hk b o (fun q' => hb (by simp at q'; rcases q' with q' | q' | q' | q' <;> simp [q'])) q) hf
  self := fun A i s Q E st h => wpAny_pyIter_zip st.1.1 h
def iZipS (K : PySem.W.Frag) (ta : TA) : TI := fun σ H R => ta σ H fun vs H1 => ∃ z1 z2 xs ys, vs = [.ref (Src.ad z1), .ref (Src.ad z2)] ∧ SqS K H1 z1 xs ∧ SqS K H1 z2 ys ∧ R (ItzS K z1 z2) H1
theorem pi_zipS {X : Cx} {e e2 : Expr} {ta : TA} {p pos tpos : Pos} {elts : List Expr} {kk : Nat} (hg : Gl X "zip") (hm : X.mg "zip" = none) (ha : PA X [e, e2] ta)
    (hs : starEach [e, e2] X.env = (false, eval e X.env) :: starEach [e2] X.env) (hpl : (backTo pos (starEach [e2] X.env)).any (·.1) = false) :
    PI X (.Tuple elts kk tpos) (.Call (.Name "zip" p) [e, e2] [] pos) (iZipS X.K ta) := by
  refine ⟨fun pins s σ H R I h => ?_⟩
  refine Call_ (ld_blt I hg hm PyProof.Rows.boot_zip (PyProof.Rows.callWith_type1 (thn (ha.run pos pins s σ H _ I h) fun us s1 ⟨vs, H1, I1, r1, q1⟩ => ?_) hs hpl))
  obtain ⟨z1, z2, xs, ys, ex, hqx, hqy, q⟩ := q1
  subst ex
  cases r1 with
  | cons r rr =>
    cases rr with
    | cons r' rr =>
      cases rr
      cases r
      cases r'
      obtain ⟨its, rv, p1, _⟩ := src_seq I1 hqx
      obtain ⟨its2, rv2, p2, _⟩ := src_seq I1 hqy
      have la := src_lt p1
      have lb := src_lt p2
      refine zip_begins2 (src_begins its.toArray) (src_begins its2.toArray) p1 p2 fun h' hz hTI hTO h1 h2 hsz hk => wpAny_pyIter_zip hz ?_
      have I2 : Inv X pins σ H1 { s1 with heap := h' } := I1.kept (t' := s1.toks) hk
      refine ⟨s1.heap.objs.size + 4, [s1.heap.objs.size + 4, s1.heap.objs.size + 2, s1.heap.objs.size + 3, s1.heap.objs.size, s1.heap.objs.size + 1], _, _, H1, rfl, I2,
        turn_zipS z1 z2 (zip_sep2 (N := s1.heap.objs.size) (fp1 := [z1.ad]) (fp2 := [z2.ad]) (by simpa using la) (by simpa using lb)), ⟨⟨hz, hTI, ⟨_, _, hTO⟩, .new h1, .new h2⟩, Nat.ne_of_lt la, Nat.ne_of_lt (Nat.lt_succ_of_lt lb)⟩, fun c hcm => ?_, q⟩
      have e' : c = s1.heap.objs.size + 4 ∨ c = s1.heap.objs.size + 2 ∨ c = s1.heap.objs.size + 3 ∨ c = s1.heap.objs.size ∨ c = s1.heap.objs.size + 1 := by simpa using hcm
      have hle : s1.heap.objs.size ≤ c := by
        rcases e' with z | z | z | z | z
        · rw [z]; exact Nat.le_add_right _ _
        · rw [z]; exact Nat.le_add_right _ _
        · rw [z]; exact Nat.le_add_right _ _
        · rw [z]; exact Nat.le_refl _
        · rw [z]; exact Nat.le_add_right _ _
      exact I1.fpOk hle (I1.hok.fresh hle)
/-- zip of three -/
def Itz3S (K : PySem.W.Frag) (z1 z2 z3 : Src) : It :=
  ⟨fun i H => ∃ (xs ys zs : List V) (x y u : V), SqS K H z1 xs ∧ SqS K H z2 ys ∧ SqS K H z3 zs ∧ xs[i]? = some x ∧ ys[i]? = some y ∧ zs[i]? = some u,
    fun i H v H' => ∃ T x y u, v = .ref T ∧ H T = none ∧ H' = upd H T (.tup [x, y, u]) ∧ (∀ xs, SqS K H z1 xs → xs[i]? = some x) ∧ (∀ ys, SqS K H z2 ys → ys[i]? = some y) ∧ ∀ zs, SqS K H z3 zs → zs[i]? = some u,
    fun i H => ∃ xs ys zs : List V, SqS K H z1 xs ∧ SqS K H z2 ys ∧ SqS K H z3 zs ∧ i = min (min xs.length ys.length) zs.length⟩
theorem turn_zip3S {P : Program} {w : World} {K : PySem.W.Frag} {elts : List Expr} {kk : Nat} {tpos : Pos} (z1 z2 z3 : Src) {z TI TO i1 i2 i3 : Addr} (D : ZipSep3 z TI TO i1 i2 i3 [i1, z1.ad] [i2, z2.ad] [i3, z3.ad]) :
    Turn P w K (.Tuple elts kk tpos) (Itz3S K z1 z2 z3) [z, TI, TO, i1, i2, i3] z (fun i h => (IsZip h z TI TO .none ∧ IsTupOf3 h TI (.ref i1) (.ref i2) (.ref i3) ∧ (∃ x y u, IsTupOf3 h TO x y u) ∧ itAt z1 h i1 i ∧ itAt z2 h i2 i ∧ itAt z3 h i3 i) ∧ z1.ad ≠ i1 ∧ z2.ad ≠ i2 ∧ z3.ad ≠ i3) where
  mem := by simp
  obj := fun i h st c hc => by
    obtain ⟨⟨hz, hTI, ⟨x, y, u, hTO⟩, h1, h2, h3⟩, _⟩ := st
    have e' : c = z ∨ c = TI ∨ c = TO ∨ c = i1 ∨ c = i2 ∨ c = i3 := by simpa using hc
    rcases e' with q | q | q | q | q | q
    · rw [q]; exact ⟨_, hz, fun v q => nomatch q⟩
    · rw [q]; exact ⟨_, hTI, fun v q => nomatch q⟩
    · rw [q]; exact ⟨_, hTO, fun v q => nomatch q⟩
    · rw [q]; exact h1.obj
    · rw [q]; exact h2.obj
    · rw [q]; exact h3.obj
  keep := fun i h h' st k => by
    obtain ⟨⟨hz, hTI, ⟨x, y, u, hTO⟩, h1, h2, h3⟩, hn⟩ := st
    exact ⟨⟨k z (by simp) _ hz, k TI (by simp) _ hTI, ⟨x, y, u, k TO (by simp) _ hTO⟩, h1.at fun o q => k i1 (by simp) o q, h2.at fun o q => k i2 (by simp) o q, h3.at fun o q => k i3 (by simp) o q⟩, hn⟩
  item := by
    intro X hP hw hK hc i pins s σ H E I hf st hg
    subst hP hw hK
    obtain ⟨⟨hz, hTI, ⟨x0, y0, u0, hTO⟩, h1, h2, h3⟩, n1, n2, n3⟩ := st
    obtain ⟨xs, ys, zs, x, y, u, hqx, hqy, hqz, hx, hy, hu⟩ := hg
    obtain ⟨its, rv, p, _⟩ := src_seq I hqx
    obtain ⟨its2, rv2, p2, _⟩ := src_seq I hqy
    obtain ⟨its3, rv3, p3, _⟩ := src_seq I hqz
    have hd : X.A.in1.handled = none := I.ok.hd hc
    have W := GoesN.zip3 (elts := elts) (x1 := kk) (pos := tpos) D (src_draws (prog := X.prog) (w := X.w) hd n1 its.toArray) (src_draws (prog := X.prog) (w := X.w) hd n2 its2.toArray) (src_draws (prog := X.prog) (w := X.w) hd n3 its3.toArray)
    have hi : i < min (min its.toArray.size its2.toArray.size) its3.toArray.size := by
      have e1 := (List.getElem?_eq_some_iff.mp hx).1
      have e2 := (List.getElem?_eq_some_iff.mp hy).1
      have e3 := (List.getElem?_eq_some_iff.mp hu).1
      rw [List.size_toArray, List.size_toArray, List.size_toArray, ← rv.length, ← rv2.length, ← rv3.length]
      exact Nat.lt_min.mpr ⟨Nat.lt_min.mpr ⟨e1, e2⟩, e3⟩
    refine W.goes i s _ _ hi ⟨hz, hTI, ⟨x0, y0, u0, hTO⟩, ⟨h1, p⟩, ⟨h2, p2⟩, ⟨h3, p3⟩⟩ fun v h' tk hY st' hk htk => ?_
    obtain ⟨T, a1, a2, a3, rfl, hT, hu1, hu2, hu3, oT, hoT, cT, nT, dT⟩ := hY
    obtain ⟨hz', hTI', hTO', ⟨h1', _⟩, ⟨h2', _⟩, h3', _⟩ := st'
    have new : ObjOk X.prog X.w (upd H T (.tup [x, y, u])) h' T (.tup [x, y, u]) :=
      ⟨by show 3 ≤ sizeLine; decide, [a1, a2, a3], .cons (get_of rv hx hu1) (.cons (get_of rv2 hy hu2) (.cons (get_of rv3 hu hu3) .nil)), ⟨oT, hoT, cT, nT, dT⟩⟩
    have I1 := I.turnedNew (t' := tk) (ch := [z, TI, TO, i1, i2, i3]) (fun b o hb q => hk b o (fun q' => hb (by simp at q'; rcases q' with q' | q' | q' | q' | q' <;> simp [q'])) q) hf hT new
    refine ⟨.ref T, _, I1, rfl, ⟨T, x, y, u, rfl, I.hok.fresh hT, rfl, fun l hl => by rw [src_inj I hl hqx]; exact hx, fun l hl => by rw [src_inj I hl hqy]; exact hy, fun l hl => by rw [src_inj I hl hqz]; exact hu⟩, ⟨⟨hz', hTI', hTO', h1', h2', h3'⟩, n1, n2, n3⟩, fun c hcm => ?_⟩
    have hlt : c < s.heap.objs.size := by
      have e' : c = z ∨ c = TI ∨ c = TO ∨ c = i1 ∨ c = i2 ∨ c = i3 := by simpa using hcm
      rcases e' with q | q | q | q | q | q
      · rw [q]; exact Heap.lt_size hz
      · rw [q]; exact Heap.lt_size hTI
      · rw [q]; exact Heap.lt_size hTO
      · rw [q]; obtain ⟨_, e1, _⟩ := h1.obj; exact Heap.lt_size e1
      · rw [q]; obtain ⟨_, e2, _⟩ := h2.obj; exact Heap.lt_size e2
      · rw [q]; obtain ⟨_, e2, _⟩ := h3.obj; exact Heap.lt_size e2
    rw [upd_ne (Nat.ne_of_lt (Nat.lt_of_lt_of_le hlt hT))]
    exact (hf c hcm).1
  done := by
    intro X hP hw hK hc i pins s σ H E I hf st hg
    subst hP hw hK
    obtain ⟨⟨hz, hTI, ⟨x0, y0, u0, hTO⟩, h1, h2, h3⟩, n1, n2, n3⟩ := st
    obtain ⟨xs, ys, zs, hqx, hqy, hqz, hend⟩ := hg
    obtain ⟨its, rv, p, _⟩ := src_seq I hqx
    obtain ⟨its2, rv2, p2, _⟩ := src_seq I hqy
    obtain ⟨its3, rv3, p3, _⟩ := src_seq I hqz
    have hd : X.A.in1.handled = none := I.ok.hd hc
    have W := GoesN.zip3 (elts := elts) (x1 := kk) (pos := tpos) D (src_draws (prog := X.prog) (w := X.w) hd n1 its.toArray) (src_draws (prog := X.prog) (w := X.w) hd n2 its2.toArray) (src_draws (prog := X.prog) (w := X.w) hd n3 its3.toArray)
    have hi : i = min (min its.toArray.size its2.toArray.size) its3.toArray.size := by rw [List.size_toArray, List.size_toArray, List.size_toArray, ← rv.length, ← rv2.length, ← rv3.length, hend]
    subst hi
    exact W.stops s _ _ ⟨hz, hTI, ⟨x0, y0, u0, hTO⟩, ⟨h1, p⟩, ⟨h2, p2⟩, ⟨h3, p3⟩⟩ fun h' tk hk htk => I.turnedL (t' := tk) (ch := [z, TI, TO, i1, i2, i3]) (fun b o hb q => hk b o (fun q' => hb (by simp at q'; rcases q' with q' | q' | q' | q' | q' <;> simp [q'])) q) hf
  self := fun A i s Q E st h => wpAny_pyIter_zip st.1.1 h
def iZip3S (K : PySem.W.Frag) (ta : TA) : TI := fun σ H R => ta σ H fun vs H1 => ∃ z1 z2 z3 xs ys zs, vs = [.ref (Src.ad z1), .ref (Src.ad z2), .ref (Src.ad z3)] ∧ SqS K H1 z1 xs ∧ SqS K H1 z2 ys ∧ SqS K H1 z3 zs ∧ R (Itz3S K z1 z2 z3) H1
theorem pi_zip3S {X : Cx} {e e2 e3 : Expr} {ta : TA} {p pos tpos : Pos} {elts : List Expr} {kk : Nat} (hg : Gl X "zip") (hm : X.mg "zip" = none) (ha : PA X [e, e2, e3] ta)
    (hs : starEach [e, e2, e3] X.env = (false, eval e X.env) :: starEach [e2, e3] X.env) (hpl : (backTo pos (starEach [e2, e3] X.env)).any (·.1) = false) :
    PI X (.Tuple elts kk tpos) (.Call (.Name "zip" p) [e, e2, e3] [] pos) (iZip3S X.K ta) := by
  refine ⟨fun pins s σ H R I h => ?_⟩
  refine Call_ (ld_blt I hg hm PyProof.Rows.boot_zip (PyProof.Rows.callWith_type1 (thn (ha.run pos pins s σ H _ I h) fun us s1 ⟨vs, H1, I1, r1, q1⟩ => ?_) hs hpl))
  obtain ⟨z1, z2, z3, xs, ys, zs, ex, hqx, hqy, hqz, q⟩ := q1
  subst ex
  cases r1 with
  | cons r rr =>
    cases rr with
    | cons r' rr =>
      cases rr with
      | cons r'' rr =>
      cases rr
      cases r
      cases r'
      cases r''
      obtain ⟨its, rv, p1, _⟩ := src_seq I1 hqx
      obtain ⟨its2, rv2, p2, _⟩ := src_seq I1 hqy
      obtain ⟨its3, rv3, p3, _⟩ := src_seq I1 hqz
      have la := src_lt p1
      have lb := src_lt p2
      have lc := src_lt p3
      refine zip_begins3 (src_begins its.toArray) (src_begins its2.toArray) (src_begins its3.toArray) p1 p2 p3 fun h' hz hTI hTO h1 h2 h3 hsz hk => wpAny_pyIter_zip hz ?_
      have I2 : Inv X pins σ H1 { s1 with heap := h' } := I1.kept (t' := s1.toks) hk
      refine ⟨s1.heap.objs.size + 5, [s1.heap.objs.size + 5, s1.heap.objs.size + 3, s1.heap.objs.size + 4, s1.heap.objs.size, s1.heap.objs.size + 1, s1.heap.objs.size + 2], _, _, H1, rfl, I2,
        turn_zip3S z1 z2 z3 (zip_sep3 (N := s1.heap.objs.size) (fp1 := [z1.ad]) (fp2 := [z2.ad]) (fp3 := [z3.ad]) (by simpa using la) (by simpa using lb) (by simpa using lc)), ⟨⟨hz, hTI, ⟨_, _, _, hTO⟩, .new h1, .new h2, .new h3⟩, Nat.ne_of_lt la, Nat.ne_of_lt (Nat.lt_succ_of_lt lb), Nat.ne_of_lt (Nat.lt_of_lt_of_le lc (Nat.le_add_right _ _))⟩, fun c hcm => ?_, q⟩
      have e' : c = s1.heap.objs.size + 5 ∨ c = s1.heap.objs.size + 3 ∨ c = s1.heap.objs.size + 4 ∨ c = s1.heap.objs.size ∨ c = s1.heap.objs.size + 1 ∨ c = s1.heap.objs.size + 2 := by simpa using hcm
      have hle : s1.heap.objs.size ≤ c := by
        rcases e' with z | z | z | z | z | z
        · rw [z]; exact Nat.le_add_right _ _
        · rw [z]; exact Nat.le_add_right _ _
        · rw [z]; exact Nat.le_add_right _ _
        · rw [z]; exact Nat.le_refl _
        · rw [z]; exact Nat.le_add_right _ _
        · rw [z]; exact Nat.le_add_right _ _
      exact I1.fpOk hle (I1.hok.fresh hle)
/-- a list, a tuple, a text -/
def ItS (K : PySem.W.Frag) : Src → It
  | .l a => ⟨(Itl K a).go, (Itl K a).yld, (Itl K a).stop⟩
  | .t a => ⟨(Itt K a).go, (Itt K a).yld, (Itt K a).stop⟩
def iSeq (K : PySem.W.Frag) (te : TE) : TI := fun σ H R => te σ H fun v H1 => (∃ a xs, v = .ref a ∧ SqL K H1 a xs ∧ R (Itl K a) H1) ∨ (∃ a xs, v = .ref a ∧ SqT K H1 a xs ∧ R (Itt K a) H1) ∨ ∃ x, v = .str x ∧ R (Its x) H1
theorem pi_seq {X : Cx} {tg l : Expr} {tl : TE} (hl : PE X l tl) : PI X tg l (iSeq X.K tl) := by
  refine ⟨fun pins s σ H R I h => ?_⟩
  refine thn (hl.run pins s σ H _ I h) fun v s1 ⟨x, H1, I1, r1, q1⟩ => ?_
  rcases q1 with ⟨a, xs, e, hq, q⟩ | ⟨a, xs, e, hq, q⟩ | ⟨x, e, q⟩
  · subst e
    cases r1
    obtain ⟨its, rv, p, hz⟩ := I1.list hq
    refine wpAny_pyIter_list p.isList ?_
    refine ⟨s1.heap.objs.size, [s1.heap.objs.size], _, _, H1, rfl, I1.kept (t' := s1.toks) fun b o e => Heap.get?_push_of_some _ e, turn_list a _, ⟨_, Heap.get?_push_size _ rfl, rfl, rfl⟩, fun b hb => ?_, q⟩
    have e : b = s1.heap.objs.size := by simpa using hb
    subst e
    exact I1.fpOk (Nat.le_refl _) (I1.hok.fresh (Nat.le_refl _))
  · subst e
    cases r1
    obtain ⟨its, rv, p, hz⟩ := I1.tuple hq
    refine wpAny_pyIter_tuple (show s1.heap.IsTuple a its.toArray from p) ?_
    refine ⟨s1.heap.objs.size, [s1.heap.objs.size], _, _, H1, rfl, I1.kept (t' := s1.toks) fun b o e => Heap.get?_push_of_some _ e, turn_tuple a _, ⟨_, Heap.get?_push_size _ rfl, rfl, rfl⟩, fun b hb => ?_, q⟩
    have e : b = s1.heap.objs.size := by simpa using hb
    subst e
    exact I1.fpOk (Nat.le_refl _) (I1.hok.fresh (Nat.le_refl _))
  · subst e
    obtain ⟨t, rfl⟩ := r1
    cases ha : x.cps.all (· < 128)
    · exact wpAny_pyIter_wide ha (pi_one (tk := s1.toks) I1 _ (turn_str _ x t "str_iterator" (.inr rfl)) ⟨_, Heap.get?_push_size _ rfl, rfl, rfl⟩ q)
    · exact wpAny_pyIter_ascii ha (pi_one (tk := s1.toks) I1 _ (turn_str _ x t "str_ascii_iterator" (.inl rfl)) ⟨_, Heap.get?_push_size _ rfl, rfl, rfl⟩ q)
end DI
set_option Elab.async false
set_option linter.all false
set_option maxRecDepth 100000
set_option maxHeartbeats 400000
/-! Xb: super().__init__(text), then the fields. -/
namespace DI
open PySem PySem.Spec PyProof.Rows PySem.HandSPX
section
variable {prog : Program} {w : World} {A : Around} {E : Value → Shared → Prop} {h : Heap} {g : Array GenState} {d : Drawn} {t : Nat} {os : OsState}
theorem sup_eval {env : Env} {o : Expr} {n ms : Str} {j : Nat} {p2 p3 p4 : Pos} (h : (p2.endLine == p4.line) = true) : eval (.Call (.Attribute o n p2) [.Constant (.str ms) j p3] [] p4) env = (do
      let ov ← attributeBase o n env (eval o env)
      standAt p2.atName
      let (f, first) ← holding [ov] (getMethod ov n (do return (← importBound o env).getD true))
      callWith p4 f first (backTo p4 (starEach [.Constant (.str ms) j p3] env)) []) := by
  have hpos : methodCallPos true o env p2 p4 = pure p4 := by unfold methodCallPos; simp [h]
  rw [arm_eval_Call]
  unfold methodCall
  have hf : methodCallForm (([Expr.Constant (.str ms) j p3]).length + ([] : List Keyword).length) (backTo p4 (starEach [.Constant (.str ms) j p3] env)) (backToKw p4 (keywordEach [] env)) = true := by rfl
  rw [hf, hpos]
  rfl
theorem look1 {f : Str} {x u : Value} (h : (("self" : Str) == f) = false) : ([(("self" : Str), x), (f, u)].reverse).lookup ("self" : Str) = some x ∧ ([(("self" : Str), x), (f, u)].reverse).lookup f = some u := by
  simp [List.lookup, h]
theorem look_all {fs : List Str} {pa : Arguments} {sc : Scope} {us : List Value} {x : Value} (T : SupT fs pa sc) (hl : us.length = fs.length) :
    ((("self" : Str), x) :: fs.zip us).reverse.lookup ("self" : Str) = some x ∧ ∀ (i : Nat) (f : Str) (u : Value), fs[i]? = some f → us[i]? = some u → ((("self" : Str), x) :: fs.zip us).reverse.lookup f = some u := by
  have one : ∀ {f : Str}, fs = [f] → (("self" : Str) == f) = false → ((("self" : Str), x) :: fs.zip us).reverse.lookup ("self" : Str) = some x ∧ ∀ (i : Nat) (f : Str) (u : Value), fs[i]? = some f → us[i]? = some u → ((("self" : Str), x) :: fs.zip us).reverse.lookup f = some u := fun {f} e hf => by
    subst e
    match us, hl with
    | [u], _ =>
      refine ⟨(look1 hf).1, fun i g v hg hv => ?_⟩
      match i, hg, hv with
      | 0, hg, hv => cases hg; cases hv; exact (look1 hf).2
  rcases T.who with e | e | e | e | e
  · exact one e (by decide +kernel)
  · exact one e (by decide +kernel)
  · exact one e (by decide +kernel)
  · exact one e (by decide +kernel)
  · subst e
    match us, hl with
    | [u, v], _ =>
      have h1 : (("self" : Str) == ("part" : Str)) = false := by decide +kernel
      have h2 : (("self" : Str) == ("place" : Str)) = false := by decide +kernel
      have h3 : (("part" : Str) == ("place" : Str)) = false := by decide +kernel
      refine ⟨by simp [List.lookup, h1, h2], fun i g y hg hv => ?_⟩
      match i, hg, hv with
      | 0, hg, hv => cases hg; cases hv; simp [List.lookup, h3]
      | 1, hg, hv => cases hg; cases hv; simp [List.lookup]
/-- the body -/
theorem sup_body {K : PySem.W.Frag} {mg : Str → Option Value} {base : Heap} {C fI cda cc x t0 L : Addr} {fs : List Str} {qual : Str} {pa : Arguments} {bd : List Stmt} {sc : Scope} {us : List Value} {Q : Flow → Shared → Prop} {EE : Value → Shared → Prop} (M : L2.Mod K mg base)
    (S : SupC prog K C fI cda cc fs qual pa bd sc) (T : SupT fs pa sc) (hb : supB fs bd = true) (hl : us.length = fs.length) (kb : ∀ b o, base.get? b = some o → h.get? b = some o) (hx : h.get? x = some (excO C t0)) (xL : L ≠ x) (hxb : ∀ b o, base.get? b = some o → b ≠ x)
    (hns : h.Ns L (fun y => ((("self" : Str), Value.ref x) :: fs.zip us).reverse.lookup y))
    (hq : ∀ h' t' t1 dx, (∀ b o, b ≠ x → h.get? b = some o → h'.get? b = some o) → h.get? dx = none → dx ≠ x → h'.get? x = some (excD C t1 dx) → h'.Ns1 dx (lkV (fs.zip us).reverse) → Q .next ⟨h', g, d, t', os⟩) :
    _root_.PySem.wpAt (model prog w) A (.func bd (PySem.W.ksEnv qual sc L fI (.ref cda) cc)) (execs bd (PySem.W.ksEnv qual sc L fI (.ref cda) cc)) Q EE ⟨h, g, d, t, os⟩ := by
  have X : K.In h := M.kin.keeps kb
  obtain ⟨oc, od, osl, kV, doc, pm, an, ct, hfI⟩ := S.fn
  obtain ⟨oc2, od2, osl2, vs, file, tf, hcda, hvs, hfile⟩ := S.file
  obtain ⟨oc3, od3, osl3, hcc⟩ := S.cell
  obtain ⟨nm, q, N, bs, bm, sn, sub, ab, col, dd, e0, e1, e2, e3, e5, hC, hbm⟩ := S.ox.cls
  obtain ⟨la, rfl, hla⟩ := T.pa
  obtain ⟨ar, lr, rfl⟩ : ∃ ar lr, la = ar :: lr := by
    cases la with
    | nil => cases hla
    | cons a r => exact ⟨a, r, rfl⟩
  have har : ar.arg = ("self" : Str) := by
    simp only [List.map_cons, List.cons.injEq] at hla
    exact hla.1
  obtain ⟨mb, hmb, hmb2⟩ := M.blt
  have mself : (fun y => ((("self" : Str), Value.ref x) :: fs.zip us).reverse.lookup y) ar.arg = some (.ref x) := by
    rw [har]
    exact (look_all T hl).1
  have hcl : PySem.W.clsIn K C = some { name := nm, bases := bs, mro := .ref C :: bm, ns := N, qualname := q, hasDict := true, slotNames := sn, subclasses := sub, abstract := ab, collection := col, hasDel := false } := by unfold PySem.W.clsIn; rw [hC] <;> rfl
  unfold supB at hb
  split at hb
  rotate_left
  · cases hb
  rename_i sup p0 p1 ini p2 ms j p3 p4 p5 rest
  obtain ⟨hb1, hb4⟩ := ba' hb
  obtain ⟨hb2, hb5⟩ := ba' hb4
  obtain ⟨hb3, hb6⟩ := ba' hb5
  have hb1 := of_decide_eq_true hb1
  have hb2 := of_decide_eq_true hb2
  subst hb1 hb2
  refine ks_wpAt_execs_cons ?_
  refine ks_wpAt_Expr_any ?_ (by unfold interactive; rw [show (PySem.W.ksEnv qual sc L fI (.ref cda) cc).scope.kind = .function from T.kind]; rfl)
  refine ks_wpAt_MethodCall ?_ (sup_eval hb3)
  refine (ks_wpAt_super_base (env := PySem.W.ksEnv qual sc L fI (.ref cda) cc) T.ks T.kc (by decide +kernel) rfl (X _ _ hfI) rfl (ar := ar) rfl rfl (X _ _ hcda) rfl hvs hfile S.top ?_)
  refine PySem.W.ks_loadName_global T.kind T.ks (Calls.loadGlobal_builtin (env := PySem.W.ksEnv qual sc L fI (.ref cda) cc) (M.glob.keeps kb) (PySem.W.mg_none_of M.kin M.glob S.nosup) (hmb.keeps kb) ((hmb2 _ (by decide)).trans (by decide +kernel)) ⟨rfl, ?_⟩)
  refine wpAny_loadName_free (c := cc) (v := .ref C) T.kind T.kc rfl ⟨_, X _ _ hcc, rfl⟩ ?_
  refine wpAny_loadName_local T.kind (by rw [har]; exact T.lo _ (List.mem_cons_self ..)) hns mself ?_
  refine ks_wpAny_isType_cls (X _ _ hC) rfl ⟨rfl, ?_⟩
  refine ks_wpAny_call_super (X _ _ hC) rfl hx rfl (fun c e => by cases e) (PySem.W.looks_mroIn X S.self) (fun h1 hso k1 => ?_)
  have X1 : K.In h1 := X.keeps k1
  have hsup := S.sup
  unfold PySem.W.ks_superIn at hsup
  rw [hcl] at hsup
  have I1 : PySem.W.InstAt h1 x (excO C t0) C none := ⟨k1 _ _ hx, rfl, rfl, trivial⟩
  refine PySem.W.kxs_getMethod PySem.W.kxs_ValueError hso (PySem.W.looks_opaque X1 S.noany) (l₀ := .ref C :: bm) (fun A Q E s k q => wpAny_bind ((PySem.W.looks_clsIn X1 hcl) A _ E s k (wpAny_pure q))) rfl X1 hsup (I1.type.andThen (PySem.W.looks_subIn X1 S.subV)) (PySem.W.ks_ne X1 I1 hcl) (by decide +kernel) ?_
  have hu1 : (h1.push (PySem.W.kxs_mw "ValueError.__init__" x)).get? h1.objs.size = some (PySem.W.kxs_mw "ValueError.__init__" x) := Heap.get?_push_at rfl rfl
  have k2 : ∀ b o, h1.get? b = some o → (h1.push (PySem.W.kxs_mw "ValueError.__init__" x)).get? b = some o := fun b o e => Heap.get?_push_of_some _ e
  have k02 : ∀ b o, h.get? b = some o → (h1.push (PySem.W.kxs_mw "ValueError.__init__" x)).get? b = some o := fun b o e => k2 b o (k1 b o e)
  refine PySem.W.kxs_callWith (i := "ValueError.__init__") (x := x) rfl (Calls.evalArgs_plain ?_)
  refine Calls.spliced_cons (wpAny_Constant_str (k := j) (pos := p3) (Calls.spliced_nil ⟨hu1, ?_⟩))
  refine mw_call (k02 _ _ (X _ _ hC)) (k02 _ _ hx) hu1 (by show 1 ≤ sizeLine; rw [sizeLine_eq]; omega) (fun h2 k3 hx2 => ?_)
  refine wpAt_of_wpAny ?_
  have k4 : ∀ b o, b ≠ x → h.get? b = some o → h2.get? b = some o := fun b o hb e => k3 b o hb (k02 b o e)
  have X2 : K.In h2 := fun b o e => k4 b o (hxb b o (M.kin b o e)) (X b o e)
  have ns2 : h2.Ns L (fun y => ((("self" : Str), Value.ref x) :: fs.zip us).reverse.lookup y) := hns.at fun o e => k4 L o xL e
  have dn2 : ∀ dx, h2.get? dx = none → dx ≠ x → h.get? dx = none := fun dx e n => by
    cases q : h.get? dx with
    | none => rfl
    | some o => rw [k4 _ _ n q] at e; cases e
  have msf := (look_all (x := .ref x) T hl).1
  have mfs := (look_all (x := .ref x) T hl).2
  have lself : (PySem.W.ksEnv qual sc L fI (.ref cda) cc).kindOf "self" = some .local := T.lo _ (List.mem_cons_self ..)
  have one : ∀ f : Str, fs = [f] → (f == ("__debug__" : Str)) = false → wpAny (model prog w) A (execs rest (PySem.W.ksEnv qual sc L fI (.ref cda) cc)) Q EE ⟨h2, g, d, t + 1 + 1, os⟩ := fun f e hd => by
    subst e
    match us, hl with
    | [u], hl =>
        obtain ⟨p5, p6, p7, p8, r, rfl, hb7⟩ := assB_cons hb6
        obtain rfl := assB_nil hb7
        refine wpAny_execs_cons (ass_new S.ox X2 (S.noat _ (List.mem_cons_self ..)) T.kind lself (T.lo _ (List.mem_cons_of_mem _ (List.mem_cons_self ..))) hd ns2 msf (mfs 0 _ u rfl rfl) hx2 (fun h3 t3 dx k5 n1 n2 hx3 hn3 => wpAny_execs_nil ?_))
        exact hq h3 t3 _ dx (fun b o hb e => k5 b o hb (k4 b o hb e)) (dn2 dx n1 n2) n2 hx3 hn3
  rcases T.who with e | e | e | e | e
  · exact one _ e (by decide +kernel)
  · exact one _ e (by decide +kernel)
  · exact one _ e (by decide +kernel)
  · exact one _ e (by decide +kernel)
  · subst e
    match us, hl with
    | [u, v], hl =>
          obtain ⟨p5, p6, p7, p8, r, rfl, hb7⟩ := assB_cons hb6
          obtain ⟨p9, p10, p11, p12, r, rfl, hb8⟩ := assB_cons hb7
          obtain rfl := assB_nil hb8
          refine wpAny_execs_cons (ass_new S.ox X2 (S.noat _ (List.mem_cons_self ..)) T.kind lself (T.lo _ (List.mem_cons_of_mem _ (List.mem_cons_self ..))) (by decide +kernel) ns2 msf (mfs 0 _ u rfl rfl) hx2 (fun h3 t3 dx k5 n1 n2 hx3 hn3 => ?_))
          have X3 : K.In h3 := fun b o e => k5 b o (hxb b o (M.kin b o e)) (X2 b o e)
          have ns3 : h3.Ns L (fun y => ((("self" : Str), Value.ref x) :: (["part", "place"] : List Str).zip [u, v]).reverse.lookup y) := ns2.at fun o e => k5 L o xL e
          have dl : dx ≠ L := fun z => by
            obtain ⟨o, _, _, e, _⟩ := ns2
            rw [z, e] at n1
            cases n1
          refine wpAny_execs_cons (ass_old S.ox X3 (S.noat _ (List.mem_cons_of_mem _ (List.mem_cons_self ..))) T.kind lself (T.lo _ (List.mem_cons_of_mem _ (List.mem_cons_of_mem _ (List.mem_cons_self ..)))) (by decide +kernel) ns3 msf (mfs 1 _ v rfl rfl) hx3 hn3 (by simp) (fun h4 t4 k6 hn4 => wpAny_execs_nil ?_))
          exact hq h4 t4 _ dx (fun b o hb e => k6 b o (fun z => by rw [z] at e; rw [dn2 dx n1 n2] at e; cases e) (k5 b o hb (k4 b o hb e))) (dn2 dx n1 n2) n2 (k6 _ _ n2.symm hx3) hn4
theorem sup_init {K : PySem.W.Frag} {mg : Str → Option Value} {base : Heap} {C fI cda cc x t0 : Addr} {fs : List Str} {qual : Str} {pa : Arguments} {bd : List Stmt} {sc : Scope} {us : List Value} {R : Result → Shared → Prop} (M : L2.Mod K mg base) (S : SupC prog K C fI cda cc fs qual pa bd sc)
    (T : SupT fs pa sc) (hb : supB fs bd = true) (hl : us.length = fs.length) (kb : ∀ b o, base.get? b = some o → h.get? b = some o) (hx : h.get? x = some (excO C t0)) (hr : A.depth < recursionLimit) (hxb : ∀ b o, base.get? b = some o → b ≠ x)
    (hq : ∀ h' t' t1 dx, (∀ b o, b ≠ x → h.get? b = some o → h'.get? b = some o) → h.get? dx = none → dx ≠ x → h'.get? x = some (excD C t1 dx) → h'.Ns1 dx (lkV (fs.zip us).reverse) → R (.ok (.ret .none)) ⟨h', g, d, t', os⟩) :
    codeAny (model prog w) A (.call (.ref fI) ⟨.ref x :: us, []⟩) R ⟨h, g, d, t, os⟩ := by
  have X : K.In h := M.kin.keeps kb
  obtain ⟨oc, od, osl, kV, doc, pm, an, ct, hfI⟩ := S.fn
  have hbind : BindsTo ⟨h, g, d, t, os⟩ (PySem.W.ksFn "__init__" qual pa bd sc .none kV doc pm an (.ref cda) ct cc) ⟨.ref x :: us, []⟩ ((("self" : Str), Value.ref x) :: fs.zip us) := BindsTo.of_eq (sup_bind T hl)
  have hloc : ∀ y ∈ ((("self" : Str), Value.ref x) :: fs.zip us), sc.names.lookup y.1 = some .local := fun y hy => by
    rcases List.mem_cons.mp hy with rfl | hy
    · exact T.lo _ (List.mem_cons_self ..)
    · exact T.lo _ (List.mem_cons_of_mem _ (List.of_mem_zip hy).1)
  refine ks_codeAny_call_defAt (fd := PySem.W.ksFn "__init__" qual pa bd sc .none kV doc pm an (.ref cda) ct cc) (body := bd) (binds := _) hr (X _ _ hfI) rfl (M.nolimit.keeps kb) (PySem.W.codeRec_of X S.code) rfl hbind T.nc hloc (fun h₀ hns k0 => ?_) T.co T.gen T.kind
  have xL : h.objs.size ≠ x := fun z => by
    have := Heap.lt_size hx
    rw [← z] at this
    exact Nat.lt_irrefl _ this
  refine sup_body (L := h.objs.size) M S T hb hl (fun b o e => k0 b o (kb b o e)) (k0 _ _ hx) xL hxb hns fun h' t' t1 dx k2 hs hs2 e1 e2 => hq h' t' t1 dx (fun b o hb e => k2 b o hb (k0 b o e)) ?_ hs2 e1 e2
  cases e : h.get? dx with
  | none => rfl
  | some o => rw [k0 _ _ e] at hs; cases hs
end
end DI
set_option Elab.async false
set_option linter.all false
set_option maxRecDepth 100000
set_option maxHeartbeats 400000
/-! Xc: raise C(..) of such a class. -/
namespace DI
open PySem PySem.Spec PyProof.Rows
open L2 hiding ixN
theorem relO_zip : ∀ {l : List (Str × V)} {l' : List (Str × Value)}, l.map (·.1) = l'.map (·.1) → Vals (l.map (·.2)) (l'.map (·.2)) → ∀ f, RelO (l.lookup f) (lkV l' f)
  | [], [], _, _, f => True.intro
  | [], _ :: _, e, _, _ => by cases e
  | _ :: _, [], e, _, _ => by cases e
  | (a, v) :: l, (b, u) :: l', e, r, f => by
    simp only [List.map_cons, List.cons.injEq] at e
    obtain ⟨rfl, e⟩ := e
    cases r with
    | cons r1 r2 =>
      have ih := relO_zip e r2 f
      unfold lkV at ih ⊢
      by_cases h : f = a
      · subst h; simp only [List.lookup, beq_self_eq_true]; exact r1
      · have h2 : (f == a) = false := by simpa using h
        simp only [List.lookup, h2]; exact ih
theorem vals_rev : ∀ {vs : List V} {us : List Value}, Vals vs us → Vals vs.reverse us.reverse
  | _, _, .nil => .nil
  | _, _, .cons a b => by
    rw [List.reverse_cons, List.reverse_cons]
    exact (vals_rev b).append (.cons a .nil)
theorem relO_rev {fs : List Str} {vs : List V} {us : List Value} (h1 : vs.length = fs.length) (h2 : us.length = fs.length) (r : Vals vs us) (f : Str) : RelO (((fs.zip vs).reverse).lookup f) (lkV (fs.zip us).reverse f) := by
  refine relO_zip ?_ ?_ f
  · rw [List.map_reverse, List.map_reverse, List.map_fst_zip (by omega), List.map_fst_zip (by omega)]
  · rw [List.map_reverse, List.map_reverse, List.map_snd_zip (by omega), List.map_snd_zip (by omega)]
    exact vals_rev r
/-- C(e, ..) made to be raised -/
def tSup (C : Addr) (fs : List Str) (ta : TA) : L2.St → Hp → XK → Prop := fun σ H Q => ta σ H fun vs H1 => vs.length = fs.length ∧ ∀ d, H1 d = none → Q (.ref C) (some d) (upd H1 d (.xd (fs.zip vs).reverse))
theorem fs_few {fs : List Str} {pa : Arguments} {sc : Scope} (T : SupT fs pa sc) : fs.length ≤ 2 := by
  rcases T.who with e | e | e | e | e <;> subst e <;> decide
theorem pmk_sup {X : Cx} {x : Str} {C fI cda cc : Addr} {fs : List Str} {qual : Str} {pa : Arguments} {bd : List Stmt} {sc : Scope} {k : Nat} {e : Expr} {es : List Expr} {ta : TA} {p pos : Pos} (S : SupC X.prog X.K C fI cda cc fs qual pa bd sc) (T : SupT fs pa sc) (hb : supB fs bd = true)
    (hr : Room (k + 1) X.A) (hg : Gl X x) (hm : X.mg x = some (.ref C)) (ha : PA X (e :: es) ta)
    (hdb : (x == ("__debug__" : Str)) = false) (he : starEach (e :: es) X.env = (false, eval e X.env) :: starEach es X.env) (hpl : (backTo pos (starEach es X.env)).any (·.1) = false) :
    PMk X (.Call (.Name x p) (e :: es) [] pos) (tSup C fs ta) := by
  intro pins s σ H Q I h
  obtain ⟨nm, q, N, bs, bm, sn, sub, ab, col, dd, k0, k1, k2, k3, k5, hC, hbm⟩ := S.ox.cls
  refine wpAny_Call_Name_kw (ld_glob I hg hm ?_ hdb)
  refine PySem.W.callWith_K (h₀ := X.base) I.ok.mod.kin S.ox.kC (thn (ha.run pos pins s σ H _ I h) fun us s1 ⟨vs, H1, I1, r1, hl, q1⟩ => ⟨I1.kIn, ?_⟩) he hpl
  show wpAny _ _ (call (.ref C) us) _ _ _
  obtain ⟨hp, g, dr, tk, os⟩ := s1
  have hul : us.length = fs.length := by rw [← r1.length]; exact hl
  have hf2 := fs_few T
  have hus : us.length ≤ sizeLine := Nat.le_trans (show us.length ≤ 2 by omega) (by rw [sizeLine_eq]; decide)
  have kk : ∀ b o, hp.get? b = some o → ((hp.push (PySem.W.kdv_tup us)).push (PySem.HandSPX.excO C hp.objs.size)).get? b = some o := fun b o e => Heap.get?_push_of_some _ (Heap.get?_push_of_some _ e)
  have hget : ((hp.push (PySem.W.kdv_tup us)).push (PySem.HandSPX.excO C hp.objs.size)).get? (hp.objs.size + 1) = some (PySem.HandSPX.excO C hp.objs.size) := by heap_get
  have an : hp.get? (hp.objs.size + 1) = none := by
    cases e : hp.get? (hp.objs.size + 1) with
    | none => rfl
    | some o => exact absurd (show hp.objs.size + 1 < hp.objs.size from Heap.lt_size e) (Nat.not_lt.mpr (Nat.le_succ _))
  refine wpAny_call (PySem.HandSPX.call_own F.excBase_ValueError (fun Y => PySem.HandSPX.refsVE_contains Y bm hbm) (I1.kIn _ _ hC) (PySem.W.looks_findIn I1.kIn S.init) (fun self => PySem.W.bind_fn I1.kIn self S.tf) hus
    (sup_init (mg := X.mg) (base := X.base) I1.ok.mod S T hb hul (fun b o e => kk b o (I1.bk b o e)) hget (hr.make C us []).depth (fun b o e => Nat.ne_of_lt (Nat.lt_succ_of_lt (Heap.lt_size (I1.bk b o e)))) (fun h' t' t1 dx k n1 n2 e1 e2 => ⟨rfl, ?_⟩)))
  obtain ⟨G, g1, g2⟩ := restrict h' fun b => decide (b ≠ hp.objs.size + 1)
  have gk : ∀ b, b ≠ hp.objs.size + 1 → G.get? b = h'.get? b := fun b hb => g1 b (decide_eq_true hb)
  have ge : G.get? (hp.objs.size + 1) = none := g2 _ (by simp)
  have dn : hp.get? dx = none := by
    cases e : hp.get? dx with
    | none => rfl
    | some o => rw [kk _ _ e] at n1; cases n1
  have kG : ∀ b u, hp.get? b = some u → G.get? b = some u := fun b u e => by
    have hb : b ≠ hp.objs.size + 1 := Nat.ne_of_lt (Nat.lt_succ_of_lt (Heap.lt_size e))
    rw [gk b hb]
    exact k b u hb (kk b u e)
  have hdn : H1 dx = none := I1.hok.gone dn
  have han : H1 (hp.objs.size + 1) = none := I1.hok.gone an
  have J : Inv X pins σ (upd H1 dx (.xd (fs.zip vs).reverse)) ⟨G, g, dr, t', os⟩ := I1.laidN (t' := t') kG dn hdn ⟨_, e2.at fun o y => (gk dx n2).trans y, relO_rev hl hul r1⟩
  exact ⟨hp.objs.size + 1, _, _, ⟨G, g, dr, t', os⟩, _, .ref C, some dx, rfl, J, fun b o z => by
    by_cases hb : b = hp.objs.size + 1
    · rw [hb, ge] at z; cases z
    · exact (gk b hb).symm.trans z, ge, e1, ⟨rfl, rfl⟩, rfl, rfl, by rw [upd_ne n2.symm]; exact han, rfl, I1.bare, raises_own S.ox.exC S.ox.tyC, q1 dx hdn⟩
end DI
set_option Elab.async false
set_option linter.all false
set_option maxRecDepth 100000
/-! Sj: what a frame is, what a def promises; tests, argument lists. -/
namespace DI
open PySem PySem.Spec PyProof.Rows
open L2 hiding ixN

/-- the law's own lambda, its body b -/
def PsiOf (c : SC) (b : E) (i : Int) : Arguments → Expr → Scope → Prop := fun pa z sc' => ∃ a, paramsD pa = some (a, i) ∧ lamDB c.sc sc' a = true ∧ c.N.contains a = false ∧ chk b (toldSc c sc') (.e z) = true
def LcAt (c : SC) (cells : List (Str × Addr)) (b : E) (f c' t : Addr) (i : Int) (F : Hp) : Prop :=
  F f = some (LamDO cells (c.qual ++ "<lambda>") (PsiOf c b i) f c' t) ∧ F c' = some (LamX.CodeO c' (c.qual ++ "<lambda>")) ∧ F t = some (DefO t i)
/-- a frame of the world: k calls deep at most -/
structure XOk (W : Wd) (c : SC) (k : Nat) (Ex : XK) (X : Cx) : Prop where
  prog : X.prog = W.P
  w : X.w = W.w
  K : X.K = W.K
  mg : X.mg = W.mg
  base : X.base = W.base
  N : X.N = c.N
  sc : X.env.scope = c.sc
  fn : X.fn = c.fn
  nd : c.N.Nodup
  calm : 0 < k → X.calm = true
  room : 0 < k → Room k X.A
  un0 : X.A.units + 65 < cLine
  gd : c.top = true → X.A.guards = some []
  hot : c.hot = true → ∃ oe, (W.me, oe) ∈ X.pn ∧ Zc W.mc W.md oe ∧ ∃ vs, oe.data = .fields vs
  tk : Takes X (fun cls d _ H => Ex cls d H)
  lcx : c.lls = true → ∀ b f c' t i F, W.lc.p b f c' t i F ↔ LcAt c X.env.cells b f c' t i F
  lm : c.lam = true → X.env.qual = c.qual ∧ ∃ cc P, X.env.code = .ref cc ∧ LamX.TabB W.base W.mg cc P ∧ (P, c.qual ++ "<lambda>") ∈ W.T ∧ ∀ p ∈ W.T, p.1 = P → p.2 = c.qual ++ "<lambda>"
theorem XOk.un {W : Wd} {c : SC} {k : Nat} {Ex : XK} {X : Cx} (hX : XOk W c k Ex X) : X.A.units + 64 < cLine := by have := hX.un0; omega
/-- a def's promise: it computes g -/
def spOf (W : Wd) (n : Nat) (g : Fn) : Sp := fun vs H Q E => vs.length = n ∧ ∃ R F r ds, Good W R F H r ∧ Reps W R F vs ds ∧ PostE W R E .c F H Q (g ds r)
structure FnS (W : Wd) (k : Nat) (x : Str) (g : Fn) : Prop where
  ex : ∃ f fd ps, W.mg x = some (.ref f) ∧ PySem.W.keepIn W.K (.ref f) = true ∧ Binds W.K fd ps [] ∧ FnOk W.P W.w W.K W.mg W.base (L2.CX W.P W.w) k f fd ps (spOf W ps.length g) ∧ ∀ ds r, ds.length ≠ ps.length → g ds r = .stuck
theorem FnS.mono {W : Wd} {j k : Nat} {x : Str} {g : Fn} (h : FnS W j x g) (l : j ≤ k) : FnS W k x g := by
  obtain ⟨f, fd, ps, a, b, c, d, e⟩ := h.ex
  exact ⟨f, fd, ps, a, b, c, d.mono l, e⟩
/-- an __init__'s promise: it fills the new instance of the class c -/
def spIn (W : Wd) (c n : Nat) (g : Fn) : Sp := fun vs H Q E => vs.length = n ∧ ∃ R F H1 r ds vs' x dx, vs = .ref x :: vs' ∧ H = upd (upd H1 dx (.own x)) x (.ins (W.ca c) dx []) ∧ H1 x = none ∧ H1 dx = none ∧ dx ≠ x ∧
  Good W R F H1 r ∧ Reps W R F vs' ds ∧ PostE W R E .c F H1 (fun v H2 => v = .ref x → Q .non H2) (g ds r)
structure MkS (W : Wd) (k : Nat) (x : Str) (g : Fn) : Prop where
  ex : ∃ c f fd ps, W.mg x = some (.ref (W.ca c)) ∧ Mk W.K (W.ca c) f ∧ Binds W.K fd ps [] ∧ FnOk W.P W.w W.K W.mg W.base (L2.CX W.P W.w) k f fd ps (spIn W c ps.length g) ∧ ∀ ds r, ds.length + 1 ≠ ps.length → g ds r = .stuck
/-- the class c has the attribute f at j -/
structure FldS (W : Wd) (c j : Nat) (f : Str) : Prop where
  cls : Cls W.K (W.ca c)
  no : NoAttr W.K (W.ca c) f
  ix : (W.cf c).idxOf f = j
  lt : j < (W.cf c).length
  few : (W.cf c).length < 1000
/-- the built-in names that we use are the built-in ones -/
def bnames : List Str := ["len", "list", "tuple", "all", "any", "sum", "max", "min", "int", "str", "sorted", "dict", "repr", "set", "isinstance", "range", "enumerate", "zip", "bool"]
/-- the function object of a lambda, by its text -/
def LamO (ps : List Str) (g : E) (qual : Str) (f c' : Addr) : HO := .ext fun h => ∃ params body scope pm ctv, h.get? f = some (PySem.W.kla_obj "<lambda>" qual params body scope [] pm c' ctv) ∧ lamSC ps scope = true ∧ paramsB params ps = true ∧ chk g (lamSc ps scope) (.e body) = true
def LamAt (ps : List Str) (g : E) (f : Addr) (F : Hp) : Prop := ∃ c' qual, F f = some (LamO ps g qual f c') ∧ F c' = some (LamX.CodeO c' qual)
structure WOk (W : Wd) : Prop where
  free : ∀ x ∈ bnames, W.mg x = none
  fo : ∀ n cs v F, W.fo n cs v F ↔ cs = [] ∧ ((∃ ps g f, W.lams n = some (ps, g) ∧ v = .ref f ∧ LamAt ps g f F) ∨ ∃ x f, W.dfs n = some x ∧ W.mg x = some (.ref f) ∧ v = .ref f)
/-- a lambda's promise -/
def LamS (W : Wd) (k : Nat) (n : Nat) (gF : Fn) : Prop := ∀ ps g, W.lams n = some (ps, g) → (∀ ds r, ds.length ≠ ps.length → gF ds r = .stuck) ∧ ∀ (A : Around) (outer : List Env) (s : Shared) (H : Hp) (f : Addr) (us : List Value) (vs : List V) (Q : VK) (E : XK),
  Room k A → Env0 W.P W.w W.K W.mg W.base A outer s H → LamAt ps g f H → Vals vs us → spOf W ps.length gF vs H Q E → codeAny (model W.P W.w) A (.call (.ref f) ⟨us, []⟩) (CR (L2.CX W.P W.w) outer W.P W.w H s Q E) s
def kd : E → Kd
  | .and _ b => kd b | .or _ b => kd b
  | .var _ => .c | .own _ => .b
  | .glob _ _ => .c
  | .ife _ a b => match kd a, kd b with
    | .n, .n => .n
    | .b, _ => .b
    | _, .b => .b
    | _, _ => .c
  | .ix _ _ => .c | .call _ _ _ => .c | .make _ _ _ => .c | .mcall _ _ _ _ _ => .c | .fld _ _ _ _ => .c
  | .enum a => kd a
  | .zip a b => match kd a, kd b with | .b, _ => .b | _, .b => .b | _, _ => .n
  | .zip3 a b d => match kd a, kd b, kd d with | .b, _, _ => .b | _, .b, _ => .b | _, _, .b => .b | _, _, _ => .n
  | .xf _ _ _ => .c | .told _ _ _ => .n | .clam _ _ => .c | .tells _ _ _ _ _ => .n | .gcall _ _ _ => .c | .lam _ _ _ => .c | .lcall _ _ _ => .c | .mt .get _ _ => .c
  | _ => .n
def noB (e : E) : Prop := match kd e with
  | .b => False
  | _ => True
theorem noB_ne {e : E} (h : noB e) : kd e ≠ .b := fun q => by unfold noB at h; rw [q] at h; exact h
/-- arguments, none of them borrowed -/
def noBs : E → Prop
  | .cons a r => noB a ∧ noBs r
  | _ => True
/-- the built-in functions, the methods that have readings -/
def biS : Bi → Bool
  | .len => true | .list => true | .tuple => true | .all => true | .any => true | .sum => true | .max2 => true | .min2 => true | .int => true | .str => true | .sorted => true | .lenset => true | .dict => true | .max1 => true | .min1 => true | .lenum => true | .lzip => true | .sortset => true | .lrng2 => true | .lrng3 => true
  | _ => false
def mtS : Mt → Bool
  | .join => true | .split => true | .count => true | .index => true | .get => true
  | _ => false
/-- a name of the module that stands for a datum -/
def GlobS (W : Wd) (x : Str) (d : D) : Prop := ∃ v u, W.mg x = some u ∧ RelV v u ∧ (∀ R F, Rep W R F v d)
def MkJ (W : Wd) (k : Nat) (x : Str) (g : Fn) : Prop := ∃ j, k = j + 1 ∧ MkS W j x g
def LcS (W : Wd) (k : Nat) (fv : Nat → List D → Fn) : Prop := (∀ n, (W.lams n).isSome = true → LamS W k n (fv n [])) ∧ ∀ n x, W.dfs n = some x → FnS W k x (fv n [])
/-- x(lambda: ..) : how the promised def tells what the lambda makes of it -/
def TTold (W : Wd) (ns : List (Nat × Str)) : (XK → Hp → VK → Prop) → Hp → VK → Prop := fun tl H Q =>
  tl (fun cls dd H' => ∃ R F r x n, Good W R F H' r ∧ RepX W R F cls dd x ∧ ns.lookup x.c = some n ∧ PostE W R (fun _ _ _ => False) .c F H' Q (.ok (.tup (.str n :: x.ds)) r)) H (fun v H' => ([V.str "told", v] : List V).length ≤ sizeLine ∧ ∀ p, H' p = none → Q (.ref p) (upd H' p (.tup [.str "told", v])))
structure ToldS (W : Wd) (k : Nat) (x : Str) (ns : List (Nat × Str)) : Prop where
  ex : ∃ j g a pg bg sg dV kV doc pm cdv ct oc an od osl Ng, k = j + 2 ∧ W.mg x = some (.ref g) ∧ PySem.W.keepIn W.K (.ref g) = true ∧ W.K.lookup g = some ⟨oc, od, .func (PySem.W.fnOf x x pg bg sg dV kV doc pm an cdv ct), osl⟩ ∧ PySem.W.codeIn W.K cdv x = true ∧
    L2.Binds W.K (PySem.W.fnOf x x pg bg sg dV kV doc pm an cdv ct) [a] [] ∧ FnScope Ng [a] sg ∧ Ng[0]? = some a ∧ Vis sg a ∧ (a == ("__debug__" : Str)) = false ∧ (a == ("__classdict__" : Str)) = false ∧
    ∀ (X : Cx) (q : Str), X.prog = W.P → X.w = W.w → X.K = W.K → X.mg = W.mg → X.base = W.base → Room 2 X.A → LamX.GivesTo X Ng x sg g cdv bg a q (TTold W ns)
/-- isinstance(e, y) of the exception in hand, its class among ks: is it among cs? -/
def IsS (W : Wd) (ks cs : List Nat) (y : Str) : Prop := ∃ cv : Value, (W.mg y = some cv ∨ (W.mg y = none ∧ bootBuiltins y = some cv ∧ y ≠ "__name__")) ∧ (∃ v, RelV v cv ∧ ∀ u, RelV v u → u = cv) ∧ ∀ c ∈ ks, ExcC W.K (W.ca c) ∧ PySem.W.kitOne W.K (.ref (W.ca c)) cv = some (cs.contains c)
/-- isinstance(e, y), y a class of the text: its instances are of it -/
structure IsoS (W : Wd) (cn : Nat) (y : Str) : Prop where
  mg : W.mg y = some (.ref (W.ca cn))
  cl : Cls W.K (W.ca cn)
  ha : PySem.W.findIn W.K (.ref (W.ca cn)) "__class__" = some (some (.builtin "object.__class__"))
  hn : PySem.W.specialIn W.K (.builtin "object.__class__") "__get__" = some (some (.builtin "getset_descriptor.__get__"))
  htk : PySem.W.takesIn W.K (.builtin "object.__class__") = some true
  hm : PySem.W.mroIn W.K (W.ca cn) (.type "object") = some true
/-- e.f of the exception in hand -/
def XfS (W : Wd) (js : List (Nat × Nat)) (f : Str) : Prop := ∀ c j, js.lookup c = some j → (W.cf c)[j]? = some f ∧ XfC W.K (W.ca c) ∧ PySem.W.findIn W.K (.ref (W.ca c)) f = some none
/-- a def's promise where no repr runs outside -/
structure FnG (W : Wd) (k : Nat) (x : Str) (g : Fn) : Prop where
  ex : ∃ f fd ps, W.mg x = some (.ref f) ∧ PySem.W.keepIn W.K (.ref f) = true ∧ Binds W.K fd ps [] ∧ (∀ ds r, ds.length ≠ ps.length → g ds r = .stuck) ∧
    ∀ (A : Around) (outer : List Env) (s : Shared) (H : Hp) (us : List Value) (vs : List V) (Q : VK) (E : XK), A.guards = some [] → Room k A → Env0 W.P W.w W.K W.mg W.base A outer s H → BindsTo s fd ⟨us, []⟩ (ps.zip us) → Vals vs us → spOf W ps.length g vs H Q E →
      codeAny (model W.P W.w) A (.call (.ref f) ⟨us, []⟩) (CR (L2.CX W.P W.w) outer W.P W.w H s Q E) s
/-- the lambdas told, by their numbers -/
def OkT (W : Wd) : List Nat → E → Prop
  | [], .nil => True
  | n :: ns, .cons (.told _ _ b) r => (W.clms n = some b ∧ ∀ cs v F, ¬ W.fo n cs v F) ∧ OkT W ns r
  | _, _ => False
/-- what must be known for an expression's reading -/
def OkE (W : Wd) (k : Nat) : E → Prop
  | .glob x d => GlobS W x d
  | .op _ a b => OkE W k a ∧ OkE W k b
  | .neg a => OkE W k a
  | .cmp _ a b => OkE W k a ∧ OkE W k b
  | .isin _ a b => OkE W k a ∧ OkE W k b
  | .chain _ _ a b c => OkE W k a ∧ OkE W k b ∧ OkE W k c
  | .and a b => OkE W k a ∧ OkE W k b
  | .or a b => OkE W k a ∧ OkE W k b
  | .not a => OkE W k a
  | .ife c a b => OkE W k c ∧ OkE W k a ∧ OkE W k b
  | .cons a r => OkE W k a ∧ OkE W k r
  | .tup es => noBs es ∧ OkE W k es
  | .lst es => noBs es ∧ OkE W k es
  | .ix a i => OkE W k a ∧ OkE W k i
  | .sl a lo hi => OkE W k a ∧ (match lo with | some e => OkE W k e | none => True) ∧ (match hi with | some e => OkE W k e | none => True)
  | .call x g es => (FnS W k x g ∧ 0 < k) ∧ noBs es ∧ OkE W k es
  | .make x g es => MkJ W k x g ∧ noBs es ∧ OkE W k es
  | .mcall _ _ _ _ _ => False
  | .dsp es => noBs es ∧ OkE W k es
  | .bi b es => (biS b = true ∧ 0 < k) ∧ OkE W k es
  | .mt m o es => mtS m = true ∧ OkE W k o ∧ OkE W k es
  | .isi a _ => OkE W k a
  | .fld o c j f => noB o ∧ FldS W c j f ∧ OkE W k o
  | .comp _ _ it ifs elt => (OkE W k it ∧ 0 < k) ∧ (match ifs with | some e => OkE W k e | none => True) ∧ noB elt ∧ OkE W k elt
  | .lam n ps g => W.lams n = some (ps, g)
  | .lcall _ fv es => (noBs es ∧ 0 < k) ∧ OkE W k es ∧ LcS W k fv
  | .rowi a _ => OkE W k a
  | .rowlen a => OkE W k a
  | .rowix a i => OkE W k a ∧ OkE W k i
  | .iso a cn y => IsoS W cn y ∧ OkE W k a
  | .isx _ ks cs y => IsS W ks cs y
  | .xf _ js f => XfS W js f
  | .rp a => OkE W k a
  | .gcall x g es => (FnG W k x g ∧ 0 < k) ∧ noBs es ∧ OkE W k es
  | .clam n b => W.clms n = some b
  | .tells _ _ nums _ bs => 0 < k ∧ OkT W nums bs ∧ OkE W k bs
  | .told x ns b => ToldS W k x ns ∧ noB b ∧ OkE W (k - 2) b
  | .rng1 a => OkE W k a
  | .rng2 a b => OkE W k a ∧ OkE W k b
  | .rng3 a b c => OkE W k a ∧ OkE W k b ∧ OkE W k c
  | .enum a => OkE W k a
  | .zip a b => OkE W k a ∧ OkE W k b
  | .zip3 a b c => OkE W k a ∧ OkE W k b ∧ OkE W k c
  | _ => True

section
variable {W : Wd} {R : Addr} {Ex : XK} {k : Kd} {F H F' H' F1 H1 H0 : Hp} {v : V} {d : D} {X : Cx}
/-! ### tests -/
variable (W R) in
def PostT (Ex : XK) (F H : Hp) (Q : Bool → Hp → Prop) : Rs D → Prop
  | .stuck => False
  | .ok (.bl b) r' => ∀ F' H', Good W R F' H' r' → Grow R F H F' H' → Q b H'
  | .ok _ _ => False
  | .exc x r' => ∀ cls dd F' H', Good W R F' H' r' → Grow R F H F' H' → RepX W R F' cls dd x → Ex cls dd H'
def SatT (W : Wd) (R : Addr) (Ex : XK) (t : TT) (f : St → Rho → Rs D) : Prop := ∀ (H0 F H : Hp) (σV : L2.St) (σ : St) (r : Rho) (Q : Bool → Hp → Prop),
  Good W R F H r → StOk W R H0 F H σV σ → PostT W R Ex F H Q (f σ r) → t σV H Q
theorem PostT.grow {Q : Bool → Hp → Prop} {res : Rs D} (g : Grow R F H F1 H1) (h : PostT W R Ex F H Q res) : PostT W R Ex F1 H1 Q res := by
  cases res with
  | stuck => exact h
  | ok d r =>
    cases d with
    | bl b => exact fun F' H' a b => h F' H' a (g.trans b)
    | _ => exact h
  | exc x r => exact fun cls dd F' H' a b c => h cls dd F' H' a (g.trans b) c
theorem PostT.x {Q : Bool → Hp → Prop} : ∀ x r', PostT W R Ex F H Q (.exc x r') → ∀ cls dd F' H', Good W R F' H' r' → Grow R F H F' H' → RepX W R F' cls dd x → Ex cls dd H' := fun _ _ h => h
theorem PostT.s {Q : Bool → Hp → Prop} : ¬ PostT W R Ex F H Q .stuck := fun h => h
theorem PK.bb (h : PK W R k H F' H' v d) : BB W R F' H' v d := by
  refine h.toB.imp id fun z => ?_
  rcases z with ⟨p, xs, ds, a, b, c, d, e, f, i, j⟩ | ⟨p, xs, ds, a, b, c, d, e, f, i, j⟩
  · exact .inl ⟨p, xs, ds, a, b, c, d, e, f, i, fun z => nomatch z⟩
  · exact .inr ⟨p, xs, ds, a, b, c, d, e, f, i, fun z => nomatch z⟩
theorem PK.bl {b : Bool} (p : PK W R k H F' H' v (.bl b)) : v = .bl b := p.bb.bl
theorem PK.bl' {b : Bool} : PK W R k H F' H' (.bl b) (.bl b) := by
  cases k with
  | c => exact Rep.bl b
  | b => exact .inl (Rep.bl b)
  | n => exact .inl ⟨Rep.bl b, rfl⟩
/-- a value, as a test -/
theorem PostT.e {Q : Bool → Hp → Prop} {res : Rs D} (h : PostT W R Ex F H Q res) : PostE W R Ex k F H (fun v H' => ∃ b, v = .bl b ∧ Q b H') res := by
  cases res with
  | stuck => exact h
  | ok d r =>
    cases d with
    | bl b => exact fun v F' H' G g p => ⟨b, p.bl, h F' H' G g⟩
    | _ => exact h.elim
  | exc x r => exact h
theorem Sat.test {t : TE} {f : St → Rho → Rs D} (h : Sat W R Ex k t f) : SatT W R Ex (fun σ H Q => t σ H fun x H' => ∃ b, x = .bl b ∧ Q b H') f :=
  fun H0 F H σV σ r Q G S p => h H0 F H σV σ r _ G S p.e
/-- a test, as a value -/
theorem PostE.t {Q : VK} {res : Rs D} (h : PostE W R Ex .n F H Q res) (hb : ∀ d r, res = .ok d r → ∃ b, d = .bl b) : PostT W R Ex F H (fun b H' => Q (.bl b) H') res := by
  cases res with
  | stuck => exact h
  | ok d r =>
    obtain ⟨b, rfl⟩ := hb d r rfl
    exact fun F' H' G g => h (.bl b) F' H' G g PK.bl'
  | exc x r => exact h
/-- what follows a test -/
theorem SatT.then_ {t : TT} {f : St → Rho → Rs D} (h : SatT W R Ex t f) {F H : Hp} {σV : L2.St} {σ : St} {r : Rho} (G : Good W R F H r) (S : StOk W R H0 F H σV σ) {α : Type} {K : D → Rho → Rs α} {Post : Rs α → Prop} {Q : Bool → Hp → Prop}
    (hs : ¬ Post .stuck) (hx : ∀ x r', Post (.exc x r') → ∀ cls dd F' H', Good W R F' H' r' → Grow R F H F' H' → RepX W R F' cls dd x → Ex cls dd H')
    (p : Post ((f σ r).bind K)) (hb : ∀ d r', ¬ (∃ b, d = .bl b) → ¬ Post (K d r')) (q : ∀ b r' F' H', Good W R F' H' r' → Grow R F H F' H' → StOk W R H0 F' H' σV σ → Post (K (.bl b) r') → Q b H') : t σV H Q := by
  refine h H0 F H σV σ r Q G S ?_
  cases e : f σ r with
  | stuck => rw [e] at p; exact absurd p hs
  | ok d r' =>
    rw [e] at p
    by_cases hd : ∃ b, d = .bl b
    · obtain ⟨b, rfl⟩ := hd
      exact fun F' H' a g => q b r' F' H' a g (S.grow g) p
    · exact absurd p (hb d r' hd)
  | exc x r' => rw [e] at p; exact hx x r' p
/-! ### arguments -/
variable (W R) in
def PostA (Ex : XK) (k : Kd) (F H : Hp) (Q : List V → Hp → Prop) : Rs D → Prop
  | .stuck => False
  | .ok (.tup ds) r' => ∀ vs F' H', Good W R F' H' r' → Grow R F H F' H' → PKs W R k H F' H' vs ds → Q vs H'
  | .ok _ _ => False
  | .exc x r' => ∀ cls dd F' H', Good W R F' H' r' → Grow R F H F' H' → RepX W R F' cls dd x → Ex cls dd H'
def SatA (W : Wd) (R : Addr) (Ex : XK) (k : Kd) (t : TA) (f : St → Rho → Rs D) : Prop := ∀ (H0 F H : Hp) (σV : L2.St) (σ : St) (r : Rho) (Q : List V → Hp → Prop),
  Good W R F H r → StOk W R H0 F H σV σ → PostA W R Ex k F H Q (f σ r) → t σV H Q
theorem PKs.grow {F2 H2 : Hp} (g : Grow R F' H' F2 H2) : ∀ {vs : List V} {ds : List D}, PKs W R k H F' H' vs ds → PKs W R k H F2 H2 vs ds
  | _, _, .nil => .nil
  | _, _, .cons a b => .cons (a.grow g) (PKs.grow g b)
theorem PKs.from_ (g : Kept R H H1) : ∀ {vs : List V} {ds : List D}, PKs W R k H1 F' H' vs ds → PKs W R k H F' H' vs ds
  | _, _, .nil => .nil
  | _, _, .cons a b => .cons (a.from_ g) (PKs.from_ g b)
theorem PKs.bb : ∀ {vs : List V} {ds : List D}, PKs W R k H F' H' vs ds → PKs W R .b H' F' H' vs ds
  | _, _, .nil => .nil
  | _, _, .cons a b => .cons a.bb (PKs.bb b)
theorem PostA.grow {Q : List V → Hp → Prop} {res : Rs D} (g : Grow R F H F1 H1) (h : PostA W R Ex k F H Q res) : PostA W R Ex k F1 H1 Q res := by
  cases res with
  | stuck => exact h
  | ok d r =>
    cases d with
    | tup ds => exact fun vs F' H' a b c => h vs F' H' a (g.trans b) (c.from_ g.kept)
    | _ => exact h
  | exc x r => exact fun cls dd F' H' a b c => h cls dd F' H' a (g.trans b) c
theorem PostA.x {Q : List V → Hp → Prop} : ∀ x r', PostA W R Ex k F H Q (.exc x r') → ∀ cls dd F' H', Good W R F' H' r' → Grow R F H F' H' → RepX W R F' cls dd x → Ex cls dd H' := fun _ _ h => h
theorem PostA.s {Q : List V → Hp → Prop} : ¬ PostA W R Ex k F H Q .stuck := fun h => h
/-- what follows arguments -/
theorem SatA.then_ {t : TA} {f : St → Rho → Rs D} (h : SatA W R Ex k t f) {F H : Hp} {σV : L2.St} {σ : St} {r : Rho} (G : Good W R F H r) (S : StOk W R H0 F H σV σ) {α : Type} {K : D → Rho → Rs α} {Post : Rs α → Prop} {Q : List V → Hp → Prop}
    (hs : ¬ Post .stuck) (hx : ∀ x r', Post (.exc x r') → ∀ cls dd F' H', Good W R F' H' r' → Grow R F H F' H' → RepX W R F' cls dd x → Ex cls dd H')
    (p : Post ((f σ r).bind K)) (hb : ∀ d r', ¬ (∃ ds, d = .tup ds) → ¬ Post (K d r')) (q : ∀ ds r' vs F' H', Good W R F' H' r' → Grow R F H F' H' → StOk W R H0 F' H' σV σ → PKs W R k H F' H' vs ds → Post (K (.tup ds) r') → Q vs H') : t σV H Q := by
  refine h H0 F H σV σ r Q G S ?_
  cases e : f σ r with
  | stuck => rw [e] at p; exact absurd p hs
  | ok d r' =>
    rw [e] at p
    by_cases hd : ∃ ds, d = .tup ds
    · obtain ⟨ds, rfl⟩ := hd
      exact fun vs F' H' a g c => q ds r' vs F' H' a g (S.grow g) c p
    · exact absurd p (hb d r' hd)
  | exc x r' => rw [e] at p; exact hx x r' p
theorem sata_nil : SatA W R Ex k tNil (fun σ r => .ok (.tup []) r) := fun H0 F H σV σ r Q G S p => p [] F H G (.refl _ _ _) .nil
theorem sata_cons {ta : TE} {tr : TA} {fa fr : St → Rho → Rs D} (ha : Sat W R Ex k ta fa) (hr : SatA W R Ex k tr fr) :
    SatA W R Ex k (tCons ta tr) (fun σ r => (fa σ r).bind fun x r => (fr σ r).bind fun l r => match l with
      | .tup ds => .ok (.tup (x :: ds)) r
      | _ => .stuck) := by
  intro H0 F H σV σ r Q G S p
  refine ha.then_ G S (Post := PostA W R Ex k F H Q) PostA.s PostA.x p fun dx r1 x F1 H1 G1 g1 S1 p1 q1 => ?_
  refine hr.then_ G1 S1 (Post := PostA W R Ex k F H Q) PostA.s (fun x r' h cls dd F' H' a b c => h cls dd F' H' a (g1.trans b) c) q1 (fun d r' hd => ?_) fun ds r2 vs F2 H2 G2 g2 S2 p2 q2 => ?_
  · cases d <;> first | exact fun z => z | exact absurd ⟨_, rfl⟩ hd
  · exact q2 (x :: vs) F2 H2 G2 (g1.trans g2) (.cons (p1.grow g2) (p2.from_ g1.kept))
/-! ### arguments, each of its own kind -/
def kB : Bool → Kd
  | true => .n
  | false => .c
def okM : List Bool → E → Prop
  | b :: bs, .cons a r => (match b with | true => kd a = .n | false => noB a) ∧ okM bs r
  | [], .nil => True
  | _, _ => False
inductive PKm (W : Wd) (R : Addr) (H F' H' : Hp) : List Bool → List V → List D → Prop where
  | nil : PKm W R H F' H' [] [] []
  | cons {b : Bool} {bs : List Bool} {v : V} {vs : List V} {d : D} {ds : List D} : PK W R (kB b) H F' H' v d → PKm W R H F' H' bs vs ds → PKm W R H F' H' (b :: bs) (v :: vs) (d :: ds)
theorem PKm.from_ (g : Kept R H H1) : ∀ {bs : List Bool} {vs : List V} {ds : List D}, PKm W R H1 F' H' bs vs ds → PKm W R H F' H' bs vs ds
  | _, _, _, .nil => .nil
  | _, _, _, .cons a b => .cons (a.from_ g) (PKm.from_ g b)
variable (W R) in
def PostM (Ex : XK) (bs : List Bool) (F H : Hp) (Q : List V → Hp → Prop) : Rs D → Prop
  | .stuck => False
  | .ok (.tup ds) r' => ∀ vs F' H', Good W R F' H' r' → Grow R F H F' H' → PKm W R H F' H' bs vs ds → Q vs H'
  | .ok _ _ => False
  | .exc x r' => ∀ cls dd F' H', Good W R F' H' r' → Grow R F H F' H' → RepX W R F' cls dd x → Ex cls dd H'
def SatM (W : Wd) (R : Addr) (Ex : XK) (bs : List Bool) (t : TA) (f : St → Rho → Rs D) : Prop := ∀ (H0 F H : Hp) (σV : L2.St) (σ : St) (r : Rho) (Q : List V → Hp → Prop),
  Good W R F H r → StOk W R H0 F H σV σ → PostM W R Ex bs F H Q (f σ r) → t σV H Q
theorem PostM.x {bs : List Bool} {Q : List V → Hp → Prop} : ∀ x r', PostM W R Ex bs F H Q (.exc x r') → ∀ cls dd F' H', Good W R F' H' r' → Grow R F H F' H' → RepX W R F' cls dd x → Ex cls dd H' := fun _ _ h => h
theorem PostM.s {bs : List Bool} {Q : List V → Hp → Prop} : ¬ PostM W R Ex bs F H Q .stuck := fun h => h
theorem SatM.then_ {bs : List Bool} {t : TA} {f : St → Rho → Rs D} (h : SatM W R Ex bs t f) {F H : Hp} {σV : L2.St} {σ : St} {r : Rho} (G : Good W R F H r) (S : StOk W R H0 F H σV σ) {α : Type} {K : D → Rho → Rs α} {Post : Rs α → Prop} {Q : List V → Hp → Prop}
    (hs : ¬ Post .stuck) (hx : ∀ x r', Post (.exc x r') → ∀ cls dd F' H', Good W R F' H' r' → Grow R F H F' H' → RepX W R F' cls dd x → Ex cls dd H')
    (p : Post ((f σ r).bind K)) (hb : ∀ d r', ¬ (∃ ds, d = .tup ds) → ¬ Post (K d r')) (q : ∀ ds r' vs F' H', Good W R F' H' r' → Grow R F H F' H' → StOk W R H0 F' H' σV σ → PKm W R H F' H' bs vs ds → Post (K (.tup ds) r') → Q vs H') : t σV H Q := by
  refine h H0 F H σV σ r Q G S ?_
  cases e : f σ r with
  | stuck => rw [e] at p; exact absurd p hs
  | ok d r' =>
    rw [e] at p
    by_cases hd : ∃ ds, d = .tup ds
    · obtain ⟨ds, rfl⟩ := hd
      exact fun vs F' H' a g c => q ds r' vs F' H' a g (S.grow g) c p
    · exact absurd p (hb d r' hd)
  | exc x r' => rw [e] at p; exact hx x r' p
theorem satm_nil : SatM W R Ex [] tNil (fun σ r => .ok (.tup []) r) := fun H0 F H σV σ r Q G S p => p [] F H G (.refl _ _ _) .nil
theorem satm_cons {b : Bool} {bs : List Bool} {ta : TE} {tr : TA} {fa fr : St → Rho → Rs D} (ha : Sat W R Ex (kB b) ta fa) (hr : SatM W R Ex bs tr fr) :
    SatM W R Ex (b :: bs) (tCons ta tr) (fun σ r => (fa σ r).bind fun x r => (fr σ r).bind fun l r => match l with
      | .tup ds => .ok (.tup (x :: ds)) r
      | _ => .stuck) := by
  intro H0 F H σV σ r Q G S p
  refine ha.then_ G S (Post := PostM W R Ex (b :: bs) F H Q) PostM.s PostM.x p fun dx r1 x F1 H1 G1 g1 S1 p1 q1 => ?_
  refine hr.then_ G1 S1 (Post := PostM W R Ex (b :: bs) F H Q) PostM.s (fun x r' h cls dd F' H' a b c => h cls dd F' H' a (g1.trans b) c) q1 (fun d r' hd => ?_) fun ds r2 vs F2 H2 G2 g2 S2 p2 q2 => ?_
  · cases d <;> first | exact fun z => z | exact absurd ⟨_, rfl⟩ hd
  · exact q2 (x :: vs) F2 H2 G2 (g1.trans g2) (.cons (p1.grow g2) (p2.from_ g1.kept))
end
end DI
set_option Elab.async false
set_option linter.all false
set_option maxRecDepth 100000
/-! Sk: each form of an expression has a reading that is met. -/
namespace DI
open PySem PySem.Spec PyProof.Rows
open L2 hiding ixN
theorem sizeLine_v : sizeLine = 16777216 := sizeLine_eq
/-! ### what a loop walks -/
section
variable (W : Wd) (R : Addr)
def LtOf : Bool → Hp → Hp → Hp → Hp → Prop
  | true, F, _, F2, _ => Le F F2
  | false, F, H, F2, H2 => Grow R F H F2 H2
def Walks (Lt : Hp → Hp → Prop) (J : It) (ds : List D) : Prop := ∀ (i : Nat) (F H : Hp) (r : Rho), Good W R F H r → Lt F H →
  (∀ d, ds[i]? = some d → J.go i H ∧ ∀ x H', J.yld i H x H' → ∃ F', Good W R F' H' r ∧ Grow R F H F' H' ∧ Rep W R F' x d) ∧ (ds.length = i → J.stop i H)
def PostI (Ex : XK) (b : Bool) (F H : Hp) (Q : It → Hp → Prop) : Rs D → Prop
  | .stuck => False
  | .ok d r' => ∃ ds, iterD d = some ds ∧ ∀ J F' H', Good W R F' H' r' → Grow R F H F' H' → Walks W R (LtOf R b F' H') J ds → ds.length ≤ sizeLine → Q J H'
  | .exc x r' => ∀ cls dd F' H', Good W R F' H' r' → Grow R F H F' H' → RepX W R F' cls dd x → Ex cls dd H'
def SatI (Ex : XK) (b : Bool) (t : TI) (f : St → Rho → Rs D) : Prop := ∀ (H0 F H : Hp) (σV : L2.St) (σ : St) (r : Rho) (Q : It → Hp → Prop),
  Good W R F H r → StOk W R H0 F H σV σ → PostI W R Ex b F H Q (f σ r) → t σV H Q
end
section
variable {W : Wd} {R : Addr} {Ex : XK} {b : Bool} {k : Kd} {F H F' H' F1 H1 H0 : Hp} {v : V} {d : D} {X : Cx}
theorem LtOf.of_grow {F2 H2 : Hp} (g : Grow R F H F2 H2) : LtOf R b F H F2 H2 := by
  cases b
  · exact g
  · exact g.le
theorem LtOf.weak {F2 H2 : Hp} (h : LtOf R false F H F2 H2) : LtOf R b F H F2 H2 := LtOf.of_grow h
theorem SatI.weak {t : TI} {f : St → Rho → Rs D} (h : SatI W R Ex true t f) : SatI W R Ex false t f := by
  intro H0 F H σV σ r Q G S p
  refine h H0 F H σV σ r Q G S ?_
  cases e : f σ r with
  | stuck => rw [e] at p; exact p
  | exc x r' => rw [e] at p; exact p
  | ok d r' =>
    rw [e] at p
    obtain ⟨ds, e1, q⟩ := p
    exact ⟨ds, e1, fun J F' H' G' g wk l => q J F' H' G' g (fun i F2 H2 r2 G2 lt => wk i F2 H2 r2 G2 lt.le) l⟩
theorem PostI.x {Q : It → Hp → Prop} : ∀ x r', PostI W R Ex b F H Q (.exc x r') → ∀ cls dd F' H', Good W R F' H' r' → Grow R F H F' H' → RepX W R F' cls dd x → Ex cls dd H' := fun _ _ h => h
theorem PostI.s {Q : It → Hp → Prop} : ¬ PostI W R Ex b F H Q .stuck := fun h => h
theorem PostI.grow {Q : It → Hp → Prop} {res : Rs D} (g : Grow R F H F1 H1) (h : PostI W R Ex b F H Q res) : PostI W R Ex b F1 H1 Q res := by
  cases res with
  | stuck => exact h
  | exc x r => exact fun cls dd F' H' a b c => h cls dd F' H' a (g.trans b) c
  | ok d r =>
    obtain ⟨ds, e1, q⟩ := h
    exact ⟨ds, e1, fun J F' H' G' g' wk l => q J F' H' G' (g.trans g') wk l⟩
theorem PostI.lift_some {Q : It → Hp → Prop} {o : Option D} {r : Rho} (h : PostI W R Ex b F H Q (.lift o r)) : ∃ d, o = some d ∧ PostI W R Ex b F H Q (.ok d r) := by
  cases o with
  | none => exact h.elim
  | some d => exact ⟨d, rfl, h⟩
/-- the kind that is asked of a thing that is walked -/
def kdI : Bool → Kd
  | true => .c
  | false => .b
/-- a list or tuple that is walked -/
theorem src_of (G : Good W R F' H' r) {ds : List D} (h : seqD d = some ds) (p : PK W R (kdI b) H F' H' v d) :
    ∃ z xs, v = .ref (Src.ad z) ∧ xs.length = ds.length ∧ ds.length ≤ sizeLine ∧ ∀ F2 H2 r2, Good W R F2 H2 r2 → LtOf R b F' H' F2 H2 → SqS W.K H2 z xs ∧ Reps W R F2 xs ds := by
  have le : ∀ F2 H2, LtOf R b F' H' F2 H2 → Le F' F2 := fun F2 H2 l => by
    cases b
    · exact l.le
    · exact l
  have fromRep : Rep W R F' v d → ∃ z xs, v = .ref (Src.ad z) ∧ xs.length = ds.length ∧ ds.length ≤ sizeLine ∧ ∀ F2 H2 r2, Good W R F2 H2 r2 → LtOf R b F' H' F2 H2 → SqS W.K H2 z xs ∧ Reps W R F2 xs ds := by
    intro q
    cases q with
    | tup e l r =>
      cases h
      exact ⟨.t _, _, rfl, r.length, by rw [← r.length]; exact l, fun F2 H2 r2 G2 lt => ⟨((le _ _ lt).trans G2.le).sqT e, r.mono (le _ _ lt)⟩⟩
    | lst e l r =>
      cases h
      exact ⟨.l _, _, rfl, r.length, by rw [← r.length]; exact l, fun F2 H2 r2 G2 lt => ⟨.of (((le _ _ lt).trans G2.le) _ _ e), r.mono (le _ _ lt)⟩⟩
    | _ => cases h
  cases b with
  | true => exact fromRep p
  | false =>
    rcases p with q | ⟨p, xs, es, rfl, rfl, e, l, nR, r, nF, _⟩ | ⟨p, xs, es, rfl, rfl, _⟩
    · exact fromRep q
    · cases h
      exact ⟨.l p, xs, rfl, r.length, by rw [← r.length]; exact l, fun F2 H2 r2 G2 lt => ⟨.of (lt.kept.at_ e nR nt_lst), r.mono lt.le⟩⟩
    · cases h
theorem walks_list {Lt : Hp → Hp → Prop} {a : Addr} {xs : List V} {ds : List D} (h : ∀ F2 H2 r2, Good W R F2 H2 r2 → Lt F2 H2 → SqL W.K H2 a xs ∧ Reps W R F2 xs ds) : Walks W R Lt (Itl W.K a) ds := by
  intro i F H r G lt
  obtain ⟨hq, rs⟩ := h F H r G lt
  refine ⟨fun d e => ?_, fun e => ⟨xs, hq, by rw [rs.length, e]; exact Nat.le_refl _⟩⟩
  obtain ⟨x, e1, rx⟩ := rs.get e
  refine ⟨⟨xs, x, hq, e1⟩, fun y H' ⟨e2, e3⟩ => ?_⟩
  subst e2
  have := e3 xs hq
  rw [e1] at this
  cases this
  exact ⟨F, G, .refl _ _ _, rx⟩
theorem walks_tup {Lt : Hp → Hp → Prop} {a : Addr} {xs : List V} {ds : List D} (h : ∀ F2 H2 r2, Good W R F2 H2 r2 → Lt F2 H2 → SqT W.K H2 a xs ∧ Reps W R F2 xs ds) : Walks W R Lt (Itt W.K a) ds := by
  intro i F H r G lt
  obtain ⟨hq, rs⟩ := h F H r G lt
  refine ⟨fun d e => ?_, fun e => ⟨xs, hq, by rw [rs.length, e]; exact Nat.le_refl _⟩⟩
  obtain ⟨x, e1, rx⟩ := rs.get e
  refine ⟨⟨xs, x, hq, e1⟩, fun y H' ⟨e2, e3⟩ => ?_⟩
  subst e2
  have := e3 xs hq
  rw [e1] at this
  cases this
  exact ⟨F, G, .refl _ _ _, rx⟩
theorem walks_str {Lt : Hp → Hp → Prop} {x : Str} (kx : okS x) : Walks W R Lt (Its x) (x.cps.toList.map fun c => .str ⟨#[c]⟩) := by
  intro i F H r G lt
  refine ⟨fun d e => ?_, fun e => ?_⟩
  · rw [List.getElem?_map] at e
    obtain ⟨c, e1, e2⟩ := Option.map_eq_some_iff.mp e
    subst e2
    have hi : i < x.cps.size := by
      have := (List.getElem?_eq_some_iff.mp e1).1
      simpa using this
    refine ⟨hi, fun y H' ⟨e2, c', e3, e4⟩ => ?_⟩
    subst e2 e4
    have : c' = c := by
      have h1 : x.cps.toList[i]? = some c' := by simpa using e3
      rw [e1] at h1; cases h1; rfl
    subst this
    exact ⟨F, G, .refl _ _ _, .str _ (okS_sign kx e1)⟩
  · show x.cps.size ≤ i
    rw [← e, List.length_map, Array.length_toList]
    exact Nat.le_refl _
/-- a new tuple comes into the frozen part -/
theorem Good.tup_new {p : Addr} {xs : List V} {r : Rho} (G : Good W R F H r) (hp : H p = none) : Good W R (upd F p (.tup xs)) (upd H p (.tup xs)) r ∧ Grow R F H (upd F p (.tup xs)) (upd H p (.tup xs)) := by
  have nF := G.fNone hp
  have le : Le F (upd F p (.tup xs)) := fun b u q => by rw [upd_ne (ne_of_none q nF)]; exact q
  refine ⟨⟨fun b o q => ?_, by rw [upd_ne (G.neR hp).symm]; exact G.fR, fun b o q => ?_, (G.new (o := .tup xs) hp).row.mono le, (G.new hp).tabs, fun c q hc => upd_some ((G.new (o := .tup xs) hp).cod c q hc)⟩, ⟨le, .new hp, fun b q1 q2 => ?_⟩⟩
  · by_cases hb : b = p
    · rw [hb, upd_same] at q; rw [hb, upd_same]; exact q
    · rw [upd_ne hb] at q; rw [upd_ne hb]; exact G.le _ _ q
  · by_cases hb : b = p
    · rw [hb, upd_same] at q; cases q; exact nt_tup
    · rw [upd_ne hb] at q; exact G.ft _ _ q
  · by_cases hb : b = p
    · rw [hb]; exact hp
    · rw [upd_ne hb] at q2; exact absurd q1 q2
theorem enumL_get : ∀ {ds : List D} {i : Nat} {j : Int} {d : D}, (enumL j ds)[i]? = some d → ∃ e, ds[i]? = some e ∧ d = .tup [.int (j + (i : Nat)), e]
  | [], i, j, d, h => by simp [enumL] at h
  | a :: r, 0, j, d, h => by simp [enumL] at h; exact ⟨a, rfl, by simp [h]⟩
  | a :: r, i + 1, j, d, h => by
    obtain ⟨e, h1, h2⟩ := enumL_get (ds := r) (i := i) (j := j + 1) (d := d) (by simpa [enumL] using h)
    refine ⟨e, by simpa using h1, ?_⟩
    rw [h2]
    congr 3
    omega
theorem enumL_len : ∀ {ds : List D} {j : Int}, (enumL j ds).length = ds.length
  | [], _ => rfl
  | a :: r, j => by simp [enumL, enumL_len]
theorem zipL_get : ∀ {ds es : List D} {i : Nat} {d : D}, (zipL ds es)[i]? = some d → ∃ a b, ds[i]? = some a ∧ es[i]? = some b ∧ d = .tup [a, b]
  | [], _, i, d, h => by simp [zipL] at h
  | a :: r, [], i, d, h => by simp [zipL] at h
  | a :: r, b :: s, 0, d, h => by simp [zipL] at h; exact ⟨a, b, rfl, rfl, h.symm⟩
  | a :: r, b :: s, i + 1, d, h => by
    obtain ⟨a, b, h1, h2, h3⟩ := zipL_get (ds := r) (es := s) (i := i) (d := d) (by simpa [zipL] using h)
    exact ⟨a, b, by simpa using h1, by simpa using h2, h3⟩
theorem zipL_len : ∀ {ds es : List D}, (zipL ds es).length = min ds.length es.length
  | [], _ => by simp [zipL]
  | a :: r, [] => by simp [zipL]
  | a :: r, b :: s => by simp [zipL, zipL_len]
theorem zip3L_get : ∀ {ds es fs : List D} {i : Nat} {d : D}, (zip3L ds es fs)[i]? = some d → ∃ a b c, ds[i]? = some a ∧ es[i]? = some b ∧ fs[i]? = some c ∧ d = .tup [a, b, c]
  | [], _, _, i, d, h => by simp [zip3L] at h
  | a :: r, [], _, i, d, h => by simp [zip3L] at h
  | a :: r, b :: s, [], i, d, h => by simp [zip3L] at h
  | a :: r, b :: s, c :: t, 0, d, h => by simp [zip3L] at h; exact ⟨a, b, c, rfl, rfl, rfl, h.symm⟩
  | a :: r, b :: s, c :: t, i + 1, d, h => by
    obtain ⟨a, b, c, h1, h2, h3, h4⟩ := zip3L_get (ds := r) (es := s) (fs := t) (i := i) (d := d) (by simpa [zip3L] using h)
    exact ⟨a, b, c, by simpa using h1, by simpa using h2, by simpa using h3, h4⟩
theorem zip3L_len : ∀ {ds es fs : List D}, (zip3L ds es fs).length = min (min ds.length es.length) fs.length
  | [], _, _ => by simp [zip3L]
  | a :: r, [], _ => by simp [zip3L]
  | a :: r, b :: s, [] => by simp [zip3L]
  | a :: r, b :: s, c :: t => by simp [zip3L, zip3L_len]
theorem walks_enum {Lt : Hp → Hp → Prop} {z : Src} {xs : List V} {ds : List D} (h : ∀ F2 H2 r2, Good W R F2 H2 r2 → Lt F2 H2 → SqS W.K H2 z xs ∧ Reps W R F2 xs ds) : Walks W R Lt (IteS W.K z) (enumL 0 ds) := by
  intro i F H r G lt
  obtain ⟨hq, rs⟩ := h F H r G lt
  refine ⟨fun d e => ?_, fun e => ⟨xs, hq, by rw [rs.length, ← enumL_len (j := 0), e]⟩⟩
  obtain ⟨d', e1, rfl⟩ := enumL_get e
  obtain ⟨x, e2, rx⟩ := rs.get e1
  refine ⟨⟨xs, x, hq, e2⟩, fun y H' ⟨T, x', hy, hT, hH, hx⟩ => ?_⟩
  subst hy hH
  have := hx xs hq
  rw [e2] at this
  cases this
  obtain ⟨G', g⟩ := G.tup_new (xs := [.int (i : Nat), x]) hT
  refine ⟨_, G', g, .tup (.of upd_same) (by show 2 ≤ sizeLine; decide) ?_⟩
  rw [Int.zero_add]
  exact .cons (.int _) (.cons (rx.mono g.le) .nil)
theorem walks_zip {Lt : Hp → Hp → Prop} {z1 z2 : Src} {xs ys : List V} {ds es : List D} (h : ∀ F2 H2 r2, Good W R F2 H2 r2 → Lt F2 H2 → SqS W.K H2 z1 xs ∧ Reps W R F2 xs ds)
    (h2 : ∀ F2 H2 r2, Good W R F2 H2 r2 → Lt F2 H2 → SqS W.K H2 z2 ys ∧ Reps W R F2 ys es) : Walks W R Lt (ItzS W.K z1 z2) (zipL ds es) := by
  intro i F H r G lt
  obtain ⟨hq, rs⟩ := h F H r G lt
  obtain ⟨hq2, rs2⟩ := h2 F H r G lt
  refine ⟨fun d e => ?_, fun e => ⟨xs, ys, hq, hq2, by rw [rs.length, rs2.length, ← zipL_len, e]⟩⟩
  obtain ⟨a, b, e1, e2, rfl⟩ := zipL_get e
  obtain ⟨x, e3, rx⟩ := rs.get e1
  obtain ⟨y, e4, ry⟩ := rs2.get e2
  refine ⟨⟨xs, ys, x, y, hq, hq2, e3, e4⟩, fun v H' ⟨T, x', y', hy, hT, hH, hx, hx2⟩ => ?_⟩
  subst hy hH
  have := hx xs hq
  rw [e3] at this
  cases this
  have := hx2 ys hq2
  rw [e4] at this
  cases this
  obtain ⟨G', g⟩ := G.tup_new (xs := [x, y]) hT
  exact ⟨_, G', g, .tup (.of upd_same) (by show 2 ≤ sizeLine; decide) (.cons (rx.mono g.le) (.cons (ry.mono g.le) .nil))⟩
theorem walks_zip3 {Lt : Hp → Hp → Prop} {z1 z2 z3 : Src} {xs ys zs : List V} {ds es fs : List D} (h : ∀ F2 H2 r2, Good W R F2 H2 r2 → Lt F2 H2 → SqS W.K H2 z1 xs ∧ Reps W R F2 xs ds)
    (h2 : ∀ F2 H2 r2, Good W R F2 H2 r2 → Lt F2 H2 → SqS W.K H2 z2 ys ∧ Reps W R F2 ys es) (h3 : ∀ F2 H2 r2, Good W R F2 H2 r2 → Lt F2 H2 → SqS W.K H2 z3 zs ∧ Reps W R F2 zs fs) : Walks W R Lt (Itz3S W.K z1 z2 z3) (zip3L ds es fs) := by
  intro i F H r G lt
  obtain ⟨hq, rs⟩ := h F H r G lt
  obtain ⟨hq2, rs2⟩ := h2 F H r G lt
  obtain ⟨hq3, rs3⟩ := h3 F H r G lt
  refine ⟨fun d e => ?_, fun e => ⟨xs, ys, zs, hq, hq2, hq3, by rw [rs.length, rs2.length, rs3.length, ← zip3L_len, e]⟩⟩
  obtain ⟨a, b, c, e1, e2, e5, rfl⟩ := zip3L_get e
  obtain ⟨x, e3, rx⟩ := rs.get e1
  obtain ⟨y, e4, ry⟩ := rs2.get e2
  obtain ⟨u, e6, ru⟩ := rs3.get e5
  refine ⟨⟨xs, ys, zs, x, y, u, hq, hq2, hq3, e3, e4, e6⟩, fun v H' ⟨T, x', y', u', hy, hT, hH, hx, hx2, hx3⟩ => ?_⟩
  subst hy hH
  have := hx xs hq
  rw [e3] at this
  cases this
  have := hx2 ys hq2
  rw [e4] at this
  cases this
  have := hx3 zs hq3
  rw [e6] at this
  cases this
  obtain ⟨G', g⟩ := G.tup_new (xs := [x, y, u]) hT
  exact ⟨_, G', g, .tup (.of upd_same) (by show 3 ≤ sizeLine; decide) (.cons (rx.mono g.le) (.cons (ry.mono g.le) (.cons (ru.mono g.le) .nil)))⟩
theorem walks_rng {Lt : Hp → Hp → Prop} {lo : Int} {n : Nat} : Walks W R Lt (Itr lo n) (rngL lo n) := by
  intro i F H r G lt
  refine ⟨fun d e => ?_, fun e => ?_⟩
  · unfold rngL at e
    rw [List.getElem?_map] at e
    obtain ⟨c, e1, e2⟩ := Option.map_eq_some_iff.mp e
    obtain ⟨hi, e3⟩ := List.getElem?_eq_some_iff.mp e1
    rw [List.getElem_range] at e3
    subst e3 e2
    refine ⟨(by simpa using hi : i < n), fun y H' ⟨h1, h2⟩ => ?_⟩
    subst h1 h2
    exact ⟨F, G, .refl _ _ _, .int _⟩
  · show n ≤ i
    rw [← e]; unfold rngL; simp
theorem walks_rngC {Lt : Hp → Hp → Prop} {lo c : Int} {n : Nat} : Walks W R Lt (Itc lo c n) (rngC lo c n) := by
  intro i F H r G lt
  refine ⟨fun d e => ?_, fun e => ?_⟩
  · unfold rngC at e
    rw [List.getElem?_map] at e
    obtain ⟨c', e1, e2⟩ := Option.map_eq_some_iff.mp e
    obtain ⟨hi, e3⟩ := List.getElem?_eq_some_iff.mp e1
    rw [List.getElem_range] at e3
    subst e3 e2
    refine ⟨(by simpa using hi : i < n), fun y H' ⟨h1, h2⟩ => ?_⟩
    subst h1 h2
    exact ⟨F, G, .refl _ _ _, .int _⟩
  · show n ≤ i
    rw [← e]; unfold rngC; simp
end
end DI
set_option Elab.async false
set_option linter.all false
set_option maxRecDepth 100000
/-! Sl: each form of an expression has a reading that is met: names, constants, operations, tests. -/
namespace DI
open PySem PySem.Spec PyProof.Rows
open L2 hiding ixN
def isBO : Expr → Bool
  | .BoolOp _ _ _ => true
  | _ => false
/-- keys and values -/
inductive PairsR (W : Wd) (R : Addr) (F : Hp) : List (V × V) → List D → Prop
  | nil : PairsR W R F [] []
  | cons {x y : V} {ps : List (V × V)} {a b : D} {ds : List D} : Rep W R F x a → Rep W R F y b → PairsR W R F ps ds → PairsR W R F ((x, y) :: ps) (a :: b :: ds)
def PostP (W : Wd) (R : Addr) (Ex : XK) (F H : Hp) (Q : List (V × V) → Hp → Prop) : Rs D → Prop
  | .stuck => False
  | .ok (.tup ds) r' => ∀ ps F' H', Good W R F' H' r' → Grow R F H F' H' → PairsR W R F' ps ds → Q ps H'
  | .ok _ _ => False
  | .exc x r' => ∀ cls dd F' H', Good W R F' H' r' → Grow R F H F' H' → RepX W R F' cls dd x → Ex cls dd H'
def SatP (W : Wd) (R : Addr) (Ex : XK) (trs : List (TE × TE)) (f : St → Rho → Rs D) : Prop := ∀ (H0 F H : Hp) (σV : L2.St) (σ : St) (r : Rho) (Q : List (V × V) → Hp → Prop),
  Good W R F H r → StOk W R H0 F H σV σ → PostP W R Ex F H Q (f σ r) → tPairs trs σV H Q
def PostV (W : Wd) (R : Addr) (Ex : XK) (F H : Hp) (Q : V → List (V × V) → Hp → Prop) : Rs D → Prop
  | .stuck => False
  | .ok (.tup (b :: ds)) r' => ∀ y ps F' H', Good W R F' H' r' → Grow R F H F' H' → Rep W R F' y b → PairsR W R F' ps ds → Q y ps H'
  | .ok _ _ => False
  | .exc x r' => ∀ cls dd F' H', Good W R F' H' r' → Grow R F H F' H' → RepX W R F' cls dd x → Ex cls dd H'
def SatV (W : Wd) (R : Addr) (Ex : XK) (tv : TE) (trs : List (TE × TE)) (f : St → Rho → Rs D) : Prop := ∀ (H0 F H : Hp) (σV : L2.St) (σ : St) (r : Rho) (Q : V → List (V × V) → Hp → Prop),
  Good W R F H r → StOk W R H0 F H σV σ → PostV W R Ex F H Q (f σ r) → tv σV H fun y H2 => tPairs trs σV H2 fun ps H3 => Q y ps H3
structure Rd (W : Wd) (R : Addr) (Ex : XK) (k : Nat) (c : SC) (e : E) : Prop where
  val : ∀ x, chk e c (.e x) = true → ∃ t, (∀ X, XOk W c k Ex X → PE X x t) ∧ Sat W R Ex (kd e) t (ev e)
  tst : ∀ x, chk e c (.e x) = true → ∃ t, (∀ X, XOk W c k Ex X → PT X x t ∧ (isBO x = true → PW X x t)) ∧ SatT W R Ex t (ev e)
  arg : ∀ xs, chk e c (.es xs) = true → ∃ t, (∀ X, XOk W c k Ex X → PA X xs t) ∧ SatA W R Ex .b t (ev e) ∧ (noBs e → SatA W R Ex .c t (ev e)) ∧ ∀ bs, okM bs e → SatM W R Ex bs t (ev e)
  itr : ∀ x tg, chk e c (axI e x) = true → (needT e = true → isTup tg = true) → ∃ wi, (∀ X, XOk W c k Ex X → PI X tg x wi) ∧ SatI W R Ex false wi (ev e) ∧ (noB e → SatI W R Ex true wi (ev e))
  prs : ∀ ks vs, chk e c (.es (dfl ks vs)) = true → okP ks vs = true → ∃ trs, (∀ X pos, XOk W c k Ex X → PPs X pos ks vs trs) ∧ (noBs e → SatP W R Ex trs (ev e))
  prv : ∀ v ks vs, chk e c (.es (v :: dfl ks vs)) = true → okP ks vs = true → ∃ tv trs, (∀ X pos, XOk W c k Ex X → PE X v tv ∧ PPs X pos ks vs trs) ∧ (noBs e → SatV W R Ex tv trs (ev e))
section
variable {W : Wd} {R : Addr} {Ex : XK} {b : Bool} {k : Nat} {c : SC} {q : Kd} {F H F' H' F1 H1 H0 : Hp} {v : V} {d : D} {X : Cx} {e : E}
theorem satI_seq {t : TE} {f : St → Rho → Rs D} (h : Sat W R Ex (kdI b) t f) : SatI W R Ex b (iSeq W.K t) f := by
  intro H0 F H σV σ r Q G S p
  refine h H0 F H σV σ r _ G S ?_
  cases e : f σ r with
  | stuck => rw [e] at p; exact p
  | exc x r' => rw [e] at p; exact p
  | ok d r' =>
    rw [e] at p
    obtain ⟨ds, e1, q⟩ := p
    intro v F' H' G' g pk
    have hseq : seqD d = some ds ∨ ∃ x, d = .str x ∧ ds = x.cps.toList.map fun c => .str ⟨#[c]⟩ := by
      cases d <;> first | exact .inl e1 | (cases e1; exact .inr ⟨_, rfl, rfl⟩) | cases e1
    rcases hseq with hs | ⟨x, rfl, rfl⟩
    · obtain ⟨z, xs, rfl, hl, hz, hw⟩ := src_of G' hs pk
      obtain ⟨hq, rs⟩ := hw F' H' r' G' (LtOf.of_grow (.refl _ _ _))
      cases z with
      | l a => exact .inl ⟨a, xs, rfl, hq, q _ F' H' G' g (walks_list hw) hz⟩
      | t a => exact .inr (.inl ⟨a, xs, rfl, hq, q _ F' H' G' g (walks_tup hw) hz⟩)
    · obtain ⟨rfl, kx⟩ := pk.bb.str
      refine .inr (.inr ⟨x, rfl, q _ F' H' G' g (walks_str kx) ?_⟩)
      rw [List.length_map, Array.length_toList]
      exact kx.1
theorem kdI_noB {t : TE} {f : St → Rho → Rs D} (h : Sat W R Ex q t f) : Sat W R Ex (kdI false) t f := h.toB
theorem Rd.of_val (na : ∀ xs, chk e c (.es xs) = false) (nt : isIt e = false)
    (hv : ∀ x, chk e c (.e x) = true → ∃ t, (∀ X, XOk W c k Ex X → PE X x t) ∧ Sat W R Ex (kd e) t (ev e))
    (ht : ∀ x, chk e c (.e x) = true → ∃ t, (∀ X, XOk W c k Ex X → PT X x t ∧ (isBO x = true → PW X x t)) ∧ SatT W R Ex t (ev e)) : Rd W R Ex k c e where
  val := hv
  tst := ht
  arg := fun xs h => by rw [na xs] at h; cases h
  prs := fun ks vs h => by rw [na _] at h; cases h
  prv := fun v ks vs h => by rw [na _] at h; cases h
  itr := fun x tg h _ => by
    have h : chk e c (.e x) = true := by unfold axI at h; rw [nt] at h; exact h
    obtain ⟨t, h1, h2⟩ := hv x h
    exact ⟨iSeq W.K t, fun X hX => by rw [← hX.K]; exact pi_seq (h1 X hX), satI_seq h2.toB, fun nb => satI_seq (b := true) (h2.toC (noB_ne nb))⟩
/-- a form whose test is its value's -/
theorem Rd.plain (na : ∀ xs, chk e c (.es xs) = false) (nt : isIt e = false) (hp : ∀ x, chk e c (.e x) = true → plainTest x = true)
    (hv : ∀ x, chk e c (.e x) = true → ∃ t, (∀ X, XOk W c k Ex X → PE X x t) ∧ Sat W R Ex (kd e) t (ev e)) : Rd W R Ex k c e :=
  .of_val na nt hv fun x h => by
    obtain ⟨t, h1, h2⟩ := hv x h
    have pl := hp x h
    refine ⟨_, fun X hX => ⟨pt_val (h1 X hX) (test_of pl), fun z => ?_⟩, h2.test⟩
    cases x <;> first | exact (Bool.false_ne_true z).elim | exact (Bool.false_ne_true pl).elim
def kLe : Kd → Kd → Prop
  | .n, _ => True
  | .c, .c => True
  | .c, .b => True
  | .b, .b => True
  | _, _ => False
theorem Sat.toK {t : TE} {f : St → Rho → Rs D} {q q' : Kd} (h : Sat W R Ex q t f) (hq : kLe q q') : Sat W R Ex q' t f := by
  cases q <;> cases q' <;> first | exact h | exact h.c | exact h.c.b | exact h.b | exact hq.elim
theorem not_debug {x : Str} (h : nameOk x = true) : (x == ("__debug__" : Str)) = false ∧ (x == ("__classdict__" : Str)) = false ∧ (x == ("__name__" : Str)) = false := by
  unfold nameOk at h
  obtain ⟨h1, h2⟩ := ba h
  obtain ⟨h1, h3⟩ := ba h1
  simp only [Bool.not_eq_true'] at h1 h2 h3
  exact ⟨h1, h3, h2⟩
theorem ne_name {x : Str} (h : nameOk x = true) : x ≠ "__name__" := fun e => by
  have := (not_debug h).2.2
  rw [e] at this
  simp at this
theorem visB_of {x : Str} {i : Nat} (h : visB c x i = true) (hX : XOk W c k Ex X) : X.N[i]? = some x ∧ Vis X.env.scope x ∧ nameOk x = true := by
  obtain ⟨h1, h2⟩ := ba h
  obtain ⟨h2, h3⟩ := ba h2
  refine ⟨by rw [hX.N]; exact of_decide_eq_true h1, ?_, h3⟩
  show _ ∨ _
  rw [hX.sc]
  cases e : c.sc.names.lookup x with
  | none => rw [e] at h2; cases h2
  | some kk => rw [e] at h2; cases kk <;> first | exact .inl rfl | exact .inr (.inl rfl) | exact .inr (.inr rfl) | cases h2
theorem glB_of {x : Str} (h : glB c x = true) (hX : XOk W c k Ex X) : Gl X x ∧ nameOk x = true := by
  obtain ⟨h1, h2⟩ := ba h
  refine ⟨?_, h2⟩
  show X.env.scope.names.lookup x = _
  rw [hX.sc]
  exact of_decide_eq_true h1
theorem rd_var (i : Nat) : Rd W R Ex k c (.var i) := by
  refine .plain (fun _ => rfl) rfl (fun x h => by cases x <;> first | rfl | cases h) fun x h => ?_
  cases x <;> try (cases h)
  rename_i x pos
  refine ⟨tVar i, fun X hX => ?_, ?_⟩
  · obtain ⟨h1, h2, h3⟩ := visB_of h hX
    exact pe_var h1 h2 (not_debug h3).1 (not_debug h3).2.1
  · intro H0 F H σV σ r Q G S p
    have p : PostE W R Ex .c F H Q (match σ[i]? with | some (.val d) => .ok d r | _ => .stuck) := p
    cases e : σ[i]? with
    | none => rw [e] at p; exact p.elim
    | some s =>
      rw [e] at p
      cases s with
      | val d =>
        obtain ⟨v, e1, rv⟩ := S.at_ i _ e
        refine ⟨v, ?_, p v F H G (.refl _ _ _) rv⟩
        cases e2 : σV[i]? with
        | none => rw [e2] at e1; cases e1
        | some o => rw [e2] at e1; cases o with
          | none => cases e1
          | some v' => cases e1; rfl
      | _ => exact p.elim
theorem join_some {σV : L2.St} {i : Nat} {v : V} (e1 : (σV[i]?).join = some v) : σV[i]? = some (some v) := by
  cases e2 : σV[i]? with
  | none => rw [e2] at e1; cases e1
  | some o => rw [e2] at e1; cases o with
    | none => cases e1
    | some v' => cases e1; rfl
theorem rd_own (i : Nat) : Rd W R Ex k c (.own i) := by
  refine .plain (fun _ => rfl) rfl (fun x h => by cases x <;> first | rfl | cases h) fun x h => ?_
  cases x <;> try (cases h)
  rename_i x pos
  refine ⟨tVar i, fun X hX => ?_, ?_⟩
  · obtain ⟨h1, h2, h3⟩ := visB_of h hX
    exact pe_var h1 h2 (not_debug h3).1 (not_debug h3).2.1
  · intro H0 F H σV σ r Q G S p
    have p : PostE W R Ex .b F H Q (match σ[i]? with | some (.own ds) => .ok (.lst ds) r | some (.ownd kvs) => .ok (.dic kvs) r | _ => .stuck) := p
    cases e : σ[i]? with
    | none => rw [e] at p; exact p.elim
    | some s =>
      rw [e] at p
      cases s with
      | own ds =>
        obtain ⟨a, xs, e1, h1, h2, h3, h4, h5, h6⟩ := S.at_ i _ e
        exact ⟨.ref a, join_some e1, p (.ref a) F H G (.refl _ _ _) (.inr (.inl ⟨a, xs, ds, rfl, rfl, h1, h2, h5, h3, h4, fun z => nomatch z⟩))⟩
      | ownd ds =>
        obtain ⟨a, xs, e1, h1, h2, h3, h4, h5, h6⟩ := S.at_ i _ e
        exact ⟨.ref a, join_some e1, p (.ref a) F H G (.refl _ _ _) (.inr (.inr ⟨a, xs, ds, rfl, rfl, h1, h2, h5, h3, h4, fun z => nomatch z⟩))⟩
      | _ => exact p.elim
theorem rd_non : Rd W R Ex k c .non := by
  refine .plain (fun _ => rfl) rfl (fun x h => by cases x <;> first | rfl | cases h) fun x h => ?_
  cases x <;> try (cases h)
  rename_i y j pos
  cases y <;> try (cases h)
  exact ⟨tC .non, fun X hX => pe_non, sat_const (fun _ => .non) rfl⟩
theorem rd_bl (b : Bool) : Rd W R Ex k c (.bl b) := by
  refine .plain (fun _ => rfl) rfl (fun x h => by cases x <;> first | rfl | cases h) fun x h => ?_
  cases x <;> try (cases h)
  rename_i y j pos
  cases y <;> try (cases h)
  rename_i b'
  have : b = b' := by simpa using (show (b == b') = true from h)
  subst this
  exact ⟨tC (.bl b), fun X hX => pe_bl, sat_const (fun _ => .bl b) rfl⟩
theorem rd_int (i : Int) : Rd W R Ex k c (.int i) := by
  refine .plain (fun _ => rfl) rfl (fun x h => by cases x <;> first | rfl | cases h) fun x h => ?_
  cases x <;> try (cases h)
  rename_i y j pos
  cases y <;> try (cases h)
  rename_i i'
  have : i = i' := of_decide_eq_true h
  subst this
  exact ⟨tC (.int i), fun X hX => pe_int, sat_const (fun _ => .int i) rfl⟩
theorem rd_str (z : Str) : Rd W R Ex k c (.str z) := by
  refine .plain (fun _ => rfl) rfl (fun x h => by cases x <;> first | rfl | cases h) fun x h => ?_
  cases x <;> try (cases h)
  rename_i y j pos
  cases y <;> try (cases h)
  rename_i z'
  obtain ⟨h1, h2⟩ := ba (show (decide (z = z') && (decide (z.length ≤ 1000) && PyData.strOk z)) = true from h)
  obtain ⟨h2, h3⟩ := ba h2
  have : z = z' := of_decide_eq_true h1
  subst this
  refine ⟨tC (.str z), fun X hX => pe_str, sat_const (fun _ => .str z ⟨?_, h3⟩) rfl⟩
  have : z.length ≤ 1000 := of_decide_eq_true h2
  rw [sizeLine_v]; omega
theorem rd_glob (z : Str) (d : D) (ok : OkE W k (.glob z d)) : Rd W R Ex k c (.glob z d) := by
  refine .plain (fun _ => rfl) rfl (fun x h => by cases x <;> first | rfl | cases h) fun x h => ?_
  cases x <;> try (cases h)
  rename_i y pos
  obtain ⟨v, u, h1, h2, h3⟩ := ok
  obtain ⟨e1, e2⟩ := ba (show (decide (z = y) && glB c y) = true from h)
  have : z = y := of_decide_eq_true e1
  subst this
  refine ⟨tC v, fun X hX => ?_, fun H0 F H σV σ r Q G S p => p v F H G (.refl _ _ _) (h3 R F)⟩
  obtain ⟨g1, g2⟩ := glB_of e2 hX
  exact pe_glob g1 (by rw [hX.mg]; exact h1) h2 (not_debug g2).1
theorem rd_op (o : Op) {a b : E} (ha : Rd W R Ex k c a) (hb : Rd W R Ex k c b) : Rd W R Ex k c (.op o a b) := by
  refine .plain (fun _ => rfl) rfl (fun x h => by cases x <;> first | rfl | cases h) fun x h => ?_
  cases x <;> try (cases h)
  rename_i x o' y pos
  obtain ⟨e1, h1⟩ := ba (show (decide (opO o = o') && (chk a c (.e x) && chk b c (.e y))) = true from h)
  obtain ⟨h1, h2⟩ := ba h1
  have : opO o = o' := of_decide_eq_true e1
  subst this
  obtain ⟨ta, pa, sa⟩ := ha.val x h1
  obtain ⟨tb, pb, sb⟩ := hb.val y h2
  refine ⟨tOp (rOp W R Ex o) ta tb, fun X hX => pe_op (opD_all hX.K o) (pa X hX) (pb X hX), sat_bin sa sb fun F H r Q x y dx dy G px py p => ⟨F, r, dx, dy, G, px, py, p⟩⟩
theorem rd_neg {a : E} (ha : Rd W R Ex k c a) : Rd W R Ex k c (.neg a) := by
  refine .plain (fun _ => rfl) rfl (fun x h => by cases x <;> first | rfl | (rename_i o _ _; cases o <;> first | rfl | cases h) | cases h) fun x h => ?_
  cases x <;> try (cases h)
  rename_i o x pos
  cases o <;> try (cases h)
  obtain ⟨ta, pa, sa⟩ := ha.val x h
  refine ⟨tUn (fun x H Q => ∃ F r dx, Good W R F H r ∧ BB W R F H x dx ∧ PostE W R Ex .n F H Q (.lift (negD dx) r)) ta, fun X hX => pe_un unD_neg (pa X hX), fun H0 F H σV σ r Q G S p => ?_⟩
  exact sa.then_ G S (Post := PostE W R Ex .n F H Q) PostE.s PostE.x p fun dx r1 x F1 H1 G1 g1 S1 p1 q1 => ⟨F1, r1, dx, G1, p1.bb, q1.grow g1⟩
theorem rd_cmp (o : Cmp) {a b : E} (ha : Rd W R Ex k c a) (hb : Rd W R Ex k c b) : Rd W R Ex k c (.cmp o a b) := by
  have key : ∀ x, chk (.cmp o a b) c (.e x) = true → ∃ x1 y pos ta tb, x = .Compare x1 [cmpO o] [y] pos ∧ notSet y = true ∧ (∀ X, XOk W c k Ex X → PE X x1 ta) ∧ (∀ X, XOk W c k Ex X → PE X y tb) ∧
      Sat W R Ex .n (tOp (rCmp W R Ex o) ta tb) (ev (.cmp o a b)) := by
    intro x h
    cases x <;> try (cases h)
    rename_i x os ys pos
    match os, ys, h with
    | [o'], [y], h =>
      obtain ⟨e1, h1⟩ := ba (show (decide (cmpO o = o') && (notSet y && (chk a c (.e x) && chk b c (.e y)))) = true from h)
      obtain ⟨hs, h1⟩ := ba h1
      obtain ⟨h1, h2⟩ := ba h1
      have : cmpO o = o' := of_decide_eq_true e1
      subst this
      obtain ⟨ta, pa, sa⟩ := ha.val x h1
      obtain ⟨tb, pb, sb⟩ := hb.val y h2
      exact ⟨x, y, pos, ta, tb, rfl, hs, pa, pb, sat_bin sa sb fun F H r Q x y dx dy G px py p => ⟨F, r, dx, dy, G, px, py, p⟩⟩
  refine .of_val (fun _ => rfl) rfl (fun x h => ?_) fun x h => ?_
  · obtain ⟨x1, y, pos, ta, tb, rfl, hs, pa, pb, s⟩ := key x h
    exact ⟨_, fun X hX => pe_cmpR (cmpD_all hX.K hX.un o) (pa X hX) (pb X hX) (marks_of hs), s⟩
  · obtain ⟨x1, y, pos, ta, tb, rfl, hs, pa, pb, s⟩ := key x h
    exact ⟨_, fun X hX => ⟨pt_cmpR (cmpD_all hX.K hX.un o) (pa X hX) (pb X hX) (marks_of hs), fun z => nomatch z⟩, s.test⟩
theorem op_inN {n : Bool} (hK : X.K = W.K) (hu : X.A.units + 65 < cLine) : OpR X (compareOp (if n then CmpOp.NotIn else .In)) (rD2 W R Ex .n fun x y => (inD x y).map fun k => .bl (k != n)) := by
  cases n
  · exact opD_in false hK hu
  · exact opD_in true hK hu
theorem XOk.units (hX : XOk W c k Ex X) : X.A.units + 65 < cLine := hX.un0
theorem rd_isin (n : Bool) {a b : E} (ha : Rd W R Ex k c a) (hb : Rd W R Ex k c b) : Rd W R Ex k c (.isin n a b) := by
  have key : ∀ x, chk (.isin n a b) c (.e x) = true → ∃ x1 y pos ta tb, x = .Compare x1 [if n then CmpOp.NotIn else .In] [y] pos ∧ notSet y = true ∧ (∀ X, XOk W c k Ex X → PE X x1 ta) ∧ (∀ X, XOk W c k Ex X → PE X y tb) ∧
      Sat W R Ex .n (tOp (rD2 W R Ex .n fun x y => (inD x y).map fun k => .bl (k != n)) ta tb) (ev (.isin n a b)) := by
    intro x h
    cases x <;> try (cases h)
    rename_i x os ys pos
    match os, ys, h with
    | [o'], [y], h =>
      obtain ⟨e1, h1⟩ := ba (show (decide ((if n then CmpOp.NotIn else .In) = o') && (notSet y && (chk a c (.e x) && chk b c (.e y)))) = true from h)
      obtain ⟨hs, h1⟩ := ba h1
      obtain ⟨h1, h2⟩ := ba h1
      have : (if n then CmpOp.NotIn else .In) = o' := of_decide_eq_true e1
      subst this
      obtain ⟨ta, pa, sa⟩ := ha.val x h1
      obtain ⟨tb, pb, sb⟩ := hb.val y h2
      exact ⟨x, y, pos, ta, tb, rfl, hs, pa, pb, sat_bin sa sb fun F H r Q x y dx dy G px py p => ⟨F, r, dx, dy, G, px, py, p⟩⟩
  refine .of_val (fun _ => rfl) rfl (fun x h => ?_) fun x h => ?_
  · obtain ⟨x1, y, pos, ta, tb, rfl, hs, pa, pb, s⟩ := key x h
    exact ⟨_, fun X hX => pe_cmpR (op_inN hX.K hX.units) (pa X hX) (pb X hX) (marks_of hs), s⟩
  · obtain ⟨x1, y, pos, ta, tb, rfl, hs, pa, pb, s⟩ := key x h
    exact ⟨_, fun X hX => ⟨pt_cmpR (op_inN hX.K hX.units) (pa X hX) (pb X hX) (marks_of hs), fun z => nomatch z⟩, s.test⟩
theorem rd_chain (o p : Cmp) {a b d : E} (ha : Rd W R Ex k c a) (hb : Rd W R Ex k c b) (hd : Rd W R Ex k c d) : Rd W R Ex k c (.chain o p a b d) := by
  have key : ∀ x, chk (.chain o p a b d) c (.e x) = true → ∃ x1 y z pos ta tb td, x = .Compare x1 [cmpO o, cmpO p] [y, z] pos ∧ notSet z = true ∧ (∀ X, XOk W c k Ex X → PE X x1 ta) ∧ (∀ X, XOk W c k Ex X → PE X y tb) ∧ (∀ X, XOk W c k Ex X → PE X z td) ∧
      Sat W R Ex .n (tChain (rCmp W R Ex o) (rCmp W R Ex p) ta tb td) (ev (.chain o p a b d)) := by
    intro x h
    cases x <;> try (cases h)
    rename_i x os ys pos
    match os, ys, h with
    | [o', p'], [y, z], h =>
      obtain ⟨e1, h1⟩ := ba (show (decide (cmpO o = o') && (decide (cmpO p = p') && (notSet z && (chk a c (.e x) && (chk b c (.e y) && chk d c (.e z)))))) = true from h)
      obtain ⟨e2, h2⟩ := ba h1
      obtain ⟨hs, h3⟩ := ba h2
      obtain ⟨hA, h4⟩ := ba h3
      obtain ⟨hB, hD⟩ := ba h4
      have : cmpO o = o' := of_decide_eq_true e1
      subst this
      have : cmpO p = p' := of_decide_eq_true e2
      subst this
      obtain ⟨ta, pa, sa⟩ := ha.val x hA
      obtain ⟨tb, pb, sb⟩ := hb.val y hB
      obtain ⟨td, pd, sd⟩ := hd.val z hD
      refine ⟨x, y, z, pos, ta, tb, td, rfl, hs, pa, pb, pd, fun H0 F H σV σ r Q G S p => ?_⟩
      refine sa.then_ G S (Post := PostE W R Ex .n F H Q) PostE.s PostE.x p fun dx r1 x F1 H1 G1 g1 S1 p1 q1 => ?_
      refine sb.then_ G1 S1 (Post := PostE W R Ex .n F1 H1 Q) PostE.s PostE.x (q1.grow g1) fun dy r2 y F2 H2 G2 g2 S2 p2 q2 => ?_
      have q2 := q2.grow g2
      refine ⟨F2, r2, dx, dy, G2, (p1.grow g2).bb, p2.bb, ?_⟩
      show PostE W R Ex .n F2 H2 _ (Rs.lift ((cmpD o dx dy).map D.bl) r2)
      cases e : cmpD o dx dy with
      | none => rw [e] at q2; exact q2.elim
      | some b =>
        rw [e] at q2
        cases b with
        | false =>
          refine fun v F3 H3 G3 g3 p3 => ?_
          refine ⟨false, p3.bl, ?_⟩
          rw [if_neg (by decide)]
          exact q2 _ F3 H3 G3 g3 PK.bl'
        | true =>
          refine fun v F3 H3 G3 g3 p3 => ?_
          refine ⟨true, p3.bl, ?_⟩
          rw [if_pos rfl]
          refine sd.then_ G3 (S2.grow g3) (Post := PostE W R Ex .n F3 H3 Q) PostE.s PostE.x (PostE.grow g3 q2) fun dz r4 z F4 H4 G4 g4 S4 p4 q4 => ?_
          exact ⟨F4, r4, dy, dz, G4, ((p2.grow g3).grow g4).bb, p4.bb, q4.grow g4⟩
  refine .of_val (fun _ => rfl) rfl (fun x h => ?_) fun x h => ?_
  · obtain ⟨x1, y, z, pos, ta, tb, td, rfl, hs, pa, pb, pd, s⟩ := key x h
    exact ⟨_, fun X hX => pe_chain (cmpD_all hX.K hX.un o) (cmpD_all hX.K hX.un p) (pa X hX) (pb X hX) (pd X hX) (by show behindInMarks _ _ = false; exact marks_of hs), s⟩
  · obtain ⟨x1, y, z, pos, ta, tb, td, rfl, hs, pa, pb, pd, s⟩ := key x h
    exact ⟨_, fun X hX => ⟨pt_chain (cmpD_all hX.K hX.un o) (cmpD_all hX.K hX.un p) (pa X hX) (pb X hX) (pd X hX) (by show behindInMarks _ _ = false; exact marks_of hs), fun z => nomatch z⟩, s.test⟩
end
end DI
set_option Elab.async false
set_option linter.all false
set_option maxRecDepth 100000
/-! Sm: and, or, not, if-else, displays, subscripts, slices, calls, fields. -/
namespace DI
open PySem PySem.Spec PyProof.Rows
open L2 hiding ixN
section
variable {W : Wd} {R : Addr} {Ex : XK} {b : Bool} {k : Nat} {c : SC} {q : Kd} {F H F' H' F1 H1 H0 : Hp} {v : V} {d : D} {X : Cx} {e : E}
/-! ### and, or -/
theorem satT_and {t u : TT} {fa fb : St → Rho → Rs D} (ha : SatT W R Ex t fa) (hb : SatT W R Ex u fb) : SatT W R Ex (tAnd t u) (fun σ r => (fa σ r).bind fun x r => match x with
    | .bl true => fb σ r
    | .bl false => .ok (.bl false) r
    | _ => .stuck) := by
  intro H0 F H σV σ r Q G S p
  refine ha.then_ G S (Post := PostT W R Ex F H Q) PostT.s PostT.x p (fun d r' hd => ?_) fun b r1 F1 H1 G1 g1 S1 q1 => ?_
  · cases d <;> first | exact fun z => z | exact absurd ⟨_, rfl⟩ hd
  · cases b with
    | false => rw [if_neg (by decide)]; exact q1 F1 H1 G1 g1
    | true => rw [if_pos rfl]; exact hb _ F1 H1 σV σ r1 Q G1 S1 (PostT.grow g1 q1)
theorem satT_or {t u : TT} {fa fb : St → Rho → Rs D} (ha : SatT W R Ex t fa) (hb : SatT W R Ex u fb) : SatT W R Ex (tOr t u) (fun σ r => (fa σ r).bind fun x r => match x with
    | .bl true => .ok (.bl true) r
    | .bl false => fb σ r
    | _ => .stuck) := by
  intro H0 F H σV σ r Q G S p
  refine ha.then_ G S (Post := PostT W R Ex F H Q) PostT.s PostT.x p (fun d r' hd => ?_) fun b r1 F1 H1 G1 g1 S1 q1 => ?_
  · cases d <;> first | exact fun z => z | exact absurd ⟨_, rfl⟩ hd
  · cases b with
    | true => rw [if_pos rfl]; exact q1 F1 H1 G1 g1
    | false => rw [if_neg (by decide)]; exact hb _ F1 H1 σV σ r1 Q G1 S1 (PostT.grow g1 q1)
theorem sat_and {q' : Kd} {t u : TE} {fa fb : St → Rho → Rs D} (ha : Sat W R Ex q' t fa) (hb : Sat W R Ex q u fb) : Sat W R Ex q (tAndV t u) (fun σ r => (fa σ r).bind fun x r => match x with
    | .bl true => fb σ r
    | .bl false => .ok (.bl false) r
    | _ => .stuck) := by
  intro H0 F H σV σ r Q G S p
  refine ha.then_ G S (Post := PostE W R Ex q F H Q) PostE.s PostE.x p fun dx r1 x F1 H1 G1 g1 S1 p1 q1 => ?_
  cases dx with
  | bl b =>
    refine ⟨b, p1.bl, ?_⟩
    cases b with
    | false => rw [if_neg (by decide)]; exact q1 _ F1 H1 G1 g1 PK.bl'
    | true => rw [if_pos rfl]; exact hb _ F1 H1 σV σ r1 Q G1 S1 (PostE.grow g1 q1)
  | _ => exact q1.elim
theorem sat_or {q' : Kd} {t u : TE} {fa fb : St → Rho → Rs D} (ha : Sat W R Ex q' t fa) (hb : Sat W R Ex q u fb) : Sat W R Ex q (tOrV t u) (fun σ r => (fa σ r).bind fun x r => match x with
    | .bl true => .ok (.bl true) r
    | .bl false => fb σ r
    | _ => .stuck) := by
  intro H0 F H σV σ r Q G S p
  refine ha.then_ G S (Post := PostE W R Ex q F H Q) PostE.s PostE.x p fun dx r1 x F1 H1 G1 g1 S1 p1 q1 => ?_
  cases dx with
  | bl b =>
    refine ⟨b, p1.bl, ?_⟩
    cases b with
    | true => rw [if_pos rfl]; exact q1 _ F1 H1 G1 g1 PK.bl'
    | false => rw [if_neg (by decide)]; exact hb _ F1 H1 σV σ r1 Q G1 S1 (PostE.grow g1 q1)
  | _ => exact q1.elim
theorem chk_and {a b : E} {x : Expr} (h : chk (.and a b) c (.e x) = true) : ∃ x1 y r pos, x = .BoolOp .And (x1 :: y :: r) pos ∧ chk a c (.e x1) = true ∧ chk b c (.e (rst .And y r pos)) = true := by
  cases x <;> try (cases h)
  rename_i o xs pos
  cases o <;> try (cases h)
  match xs, h with
  | x :: y :: r, h =>
    obtain ⟨h1, h2⟩ := ba (show (chk a c (.e x) && chk b c (.e (rst .And y r pos))) = true from h)
    exact ⟨x, y, r, pos, rfl, h1, h2⟩
theorem chk_or {a b : E} {x : Expr} (h : chk (.or a b) c (.e x) = true) : ∃ x1 y r pos, x = .BoolOp .Or (x1 :: y :: r) pos ∧ chk a c (.e x1) = true ∧ chk b c (.e (rst .Or y r pos)) = true := by
  cases x <;> try (cases h)
  rename_i o xs pos
  cases o <;> try (cases h)
  match xs, h with
  | x :: y :: r, h =>
    obtain ⟨h1, h2⟩ := ba (show (chk a c (.e x) && chk b c (.e (rst .Or y r pos))) = true from h)
    exact ⟨x, y, r, pos, rfl, h1, h2⟩
theorem rd_and {a b : E} (ha : Rd W R Ex k c a) (hb : Rd W R Ex k c b) : Rd W R Ex k c (.and a b) := by
  refine .of_val (fun _ => rfl) rfl (fun x h => ?_) fun x h => ?_
  · obtain ⟨x1, y, r, pos, rfl, h1, h2⟩ := chk_and h
    obtain ⟨ta, pa, sa⟩ := ha.val x1 h1
    obtain ⟨tb, pb, sb⟩ := hb.val _ h2
    refine ⟨_, fun X hX => pe_and (pa X hX) ?_, sat_and sa sb⟩
    cases r with
    | nil => exact pe_one (pb X hX)
    | cons z r => exact pb X hX
  · obtain ⟨x1, y, r, pos, rfl, h1, h2⟩ := chk_and h
    obtain ⟨ta, pa, sa⟩ := ha.tst x1 h1
    obtain ⟨tb, pb, sb⟩ := hb.tst _ h2
    have pw : ∀ X, XOk W c k Ex X → PW X (.BoolOp .And (x1 :: y :: r) pos) (tAnd ta tb) := fun X hX => by
      refine pw_and (pa X hX).1 ?_
      cases r with
      | nil => exact pw_and1 (pb X hX).1
      | cons z r => exact (pb X hX).2 rfl
    exact ⟨_, fun X hX => ⟨(pw X hX).pt, fun _ => pw X hX⟩, satT_and sa sb⟩
theorem rd_or {a b : E} (ha : Rd W R Ex k c a) (hb : Rd W R Ex k c b) : Rd W R Ex k c (.or a b) := by
  refine .of_val (fun _ => rfl) rfl (fun x h => ?_) fun x h => ?_
  · obtain ⟨x1, y, r, pos, rfl, h1, h2⟩ := chk_or h
    obtain ⟨ta, pa, sa⟩ := ha.val x1 h1
    obtain ⟨tb, pb, sb⟩ := hb.val _ h2
    refine ⟨_, fun X hX => pe_or (pa X hX) ?_, sat_or sa sb⟩
    cases r with
    | nil => exact pe_one (pb X hX)
    | cons z r => exact pb X hX
  · obtain ⟨x1, y, r, pos, rfl, h1, h2⟩ := chk_or h
    obtain ⟨ta, pa, sa⟩ := ha.tst x1 h1
    obtain ⟨tb, pb, sb⟩ := hb.tst _ h2
    have pw : ∀ X, XOk W c k Ex X → PW X (.BoolOp .Or (x1 :: y :: r) pos) (tOr ta tb) := fun X hX => by
      refine pw_or (pa X hX).1 ?_
      cases r with
      | nil => exact pw_or1 (pb X hX).1
      | cons z r => exact (pb X hX).2 rfl
    exact ⟨_, fun X hX => ⟨(pw X hX).pt, fun _ => pw X hX⟩, satT_or sa sb⟩
theorem rd_not {a : E} (ha : Rd W R Ex k c a) : Rd W R Ex k c (.not a) := by
  have key : ∀ x, chk (.not a) c (.e x) = true → ∃ x1 pos, x = .UnaryOp .Not x1 pos ∧ chk a c (.e x1) = true := fun x h => by
    cases x <;> try (cases h)
    rename_i o x pos
    cases o <;> try (cases h)
    exact ⟨x, pos, rfl, h⟩
  refine .of_val (fun _ => rfl) rfl (fun x h => ?_) fun x h => ?_
  · obtain ⟨x1, pos, rfl, h1⟩ := key x h
    obtain ⟨ta, pa, sa⟩ := ha.val x1 h1
    refine ⟨_, fun X hX => pe_not (pa X hX), fun H0 F H σV σ r Q G S p => ?_⟩
    refine sa.then_ G S (Post := PostE W R Ex .n F H Q) PostE.s PostE.x p fun dx r1 x F1 H1 G1 g1 S1 p1 q1 => ?_
    cases dx with
    | bl b => exact ⟨b, p1.bl, q1 _ F1 H1 G1 g1 PK.bl'⟩
    | _ => exact q1.elim
  · obtain ⟨x1, pos, rfl, h1⟩ := key x h
    obtain ⟨ta, pa, sa⟩ := ha.tst x1 h1
    refine ⟨_, fun X hX => ⟨pt_not (pa X hX).1, fun z => (Bool.false_ne_true z).elim⟩, fun H0 F H σV σ r Q G S p => ?_⟩
    refine sa.then_ G S (Post := PostT W R Ex F H Q) PostT.s PostT.x p (fun d r' hd => ?_) fun b r1 F1 H1 G1 g1 S1 q1 => q1 F1 H1 G1 g1
    cases d <;> first | exact fun z => z | exact absurd ⟨_, rfl⟩ hd
/-! ### a if t else b -/
def kJ : Kd → Kd → Kd
  | .n, .n => .n
  | .b, _ => .b
  | _, .b => .b
  | _, _ => .c
theorem kLe_a (a b : Kd) : kLe a (kJ a b) := by cases a <;> cases b <;> trivial
theorem kLe_b (a b : Kd) : kLe b (kJ a b) := by cases a <;> cases b <;> trivial
theorem pt_ifE {x1 x2 x3 : Expr} {pos : Pos} {t : TT} {ta tb : TT} (ht : PT X x1 t) (ha : PT X x2 ta) (hb : PT X x3 tb) : PT X (.IfExp x1 x2 x3 pos) (fun σ H Q => t σ H fun b H1 => if b = true then ta σ H1 Q else tb σ H1 Q) := by
  refine ⟨fun pins s σ H Q I h => ?_⟩
  refine isTrue_IfExp (thn (ht.run pins s σ H _ I h) fun d s1 ⟨H1, I1, q1⟩ => ?_)
  cases d with
  | true => exact ha.run pins s1 σ H1 Q I1 q1
  | false => exact hb.run pins s1 σ H1 Q I1 q1
theorem rd_ife {a b d : E} (hd : Rd W R Ex k c d) (ha : Rd W R Ex k c a) (hb : Rd W R Ex k c b) : Rd W R Ex k c (.ife d a b) := by
  have key : ∀ x, chk (.ife d a b) c (.e x) = true → ∃ x1 x2 x3 pos, x = .IfExp x1 x2 x3 pos ∧ chk d c (.e x1) = true ∧ chk a c (.e x2) = true ∧ chk b c (.e x3) = true := fun x h => by
    cases x <;> try (cases h)
    rename_i x1 x2 x3 pos
    obtain ⟨h1, h2⟩ := ba (show (chk d c (.e x1) && (chk a c (.e x2) && chk b c (.e x3))) = true from h)
    obtain ⟨h2, h3⟩ := ba h2
    exact ⟨x1, x2, x3, pos, rfl, h1, h2, h3⟩
  refine .of_val (fun _ => rfl) rfl (fun x h => ?_) fun x h => ?_
  · obtain ⟨x1, x2, x3, pos, rfl, h1, h2, h3⟩ := key x h
    obtain ⟨t, pt, st⟩ := hd.tst x1 h1
    obtain ⟨ta, pa, sa⟩ := ha.val x2 h2
    obtain ⟨tb, pb, sb⟩ := hb.val x3 h3
    refine ⟨_, fun X hX => pe_ifExp (pt X hX).1 (pa X hX) (pb X hX), fun H0 F H σV σ r Q G S p => ?_⟩
    have sa : Sat W R Ex (kd (.ife d a b)) ta (ev a) := sa.toK (kLe_a _ _)
    have sb : Sat W R Ex (kd (.ife d a b)) tb (ev b) := sb.toK (kLe_b _ _)
    refine st.then_ G S (Post := PostE W R Ex (kd (.ife d a b)) F H Q) PostE.s PostE.x p (fun d r' hd => ?_) fun b' r1 F1 H1 G1 g1 S1 q1 => ?_
    · cases d <;> first | exact fun z => z | exact absurd ⟨_, rfl⟩ hd
    · cases b' with
      | true => rw [if_pos rfl]; exact sa _ F1 H1 σV σ r1 Q G1 S1 (PostE.grow g1 q1)
      | false => rw [if_neg (by decide)]; exact sb _ F1 H1 σV σ r1 Q G1 S1 (PostE.grow g1 q1)
  · obtain ⟨x1, x2, x3, pos, rfl, h1, h2, h3⟩ := key x h
    obtain ⟨t, pt, st⟩ := hd.tst x1 h1
    obtain ⟨ta, pa, sa⟩ := ha.tst x2 h2
    obtain ⟨tb, pb, sb⟩ := hb.tst x3 h3
    refine ⟨_, fun X hX => ⟨pt_ifE (pt X hX).1 (pa X hX).1 (pb X hX).1, fun z => (Bool.false_ne_true z).elim⟩, fun H0 F H σV σ r Q G S p => ?_⟩
    refine st.then_ G S (Post := PostT W R Ex F H Q) PostT.s PostT.x p (fun d r' hd => ?_) fun b' r1 F1 H1 G1 g1 S1 q1 => ?_
    · cases d <;> first | exact fun z => z | exact absurd ⟨_, rfl⟩ hd
    · cases b' with
      | true => rw [if_pos rfl]; exact sa _ F1 H1 σV σ r1 Q G1 S1 (PostT.grow g1 q1)
      | false => rw [if_neg (by decide)]; exact sb _ F1 H1 σV σ r1 Q G1 S1 (PostT.grow g1 q1)
end
end DI
set_option Elab.async false
set_option linter.all false
set_option maxRecDepth 100000
/-! Sn: arguments, displays, subscripts, slices, calls, fields, loops' iterables. -/
namespace DI
open PySem PySem.Spec PyProof.Rows
open L2 hiding ixN
section
variable {W : Wd} {R : Addr} {Ex : XK} {b : Bool} {k : Nat} {c : SC} {q : Kd} {F H F' H' F1 H1 H0 : Hp} {v : V} {d : D} {X : Cx} {e : E}
/-- arguments are a tuple -/
theorem ev_es : ∀ {es : E} {xs : List Expr}, chk es c (.es xs) = true → ∀ σ r d r', ev es σ r = .ok d r' → ∃ ds : List D, d = .tup ds ∧ ds.length = xs.length
  | .nil, [], _, σ, r, d, r', e => by cases e; exact ⟨_, rfl, rfl⟩
  | .cons a es, x :: xs, h, σ, r, d, r', e => by
    obtain ⟨_, h2⟩ := ba (show (notStar x && (chk a c (.e x) && chk es c (.es xs))) = true from h)
    have e : ((ev a σ r).bind fun x r => (ev es σ r).bind fun l r => match l with
      | .tup ds => .ok (.tup (x :: ds)) r
      | _ => .stuck) = .ok d r' := e
    cases ea : ev a σ r with
    | stuck => rw [ea] at e; cases e
    | exc x r => rw [ea] at e; cases e
    | ok dx r1 =>
      rw [ea] at e
      simp only [Rs.bind_ok] at e
      cases er : ev es σ r1 with
      | stuck => rw [er] at e; cases e
      | exc x r => rw [er] at e; cases e
      | ok dr r2 =>
        rw [er] at e
        obtain ⟨ds, rfl, l⟩ := ev_es (ba h2).2 σ r1 dr r2 er
        cases e
        exact ⟨_, rfl, by simp [l]⟩
theorem rd_nil : Rd W R Ex k c .nil where
  val := fun x h => (Bool.false_ne_true h).elim
  tst := fun x h => (Bool.false_ne_true h).elim
  itr := fun x tg h => (Bool.false_ne_true h).elim
  arg := fun xs h => by
    cases xs with
    | nil => exact ⟨tNil, fun X hX => pa_nil, sata_nil, fun _ => sata_nil, fun bs hb => by cases bs with | nil => exact satm_nil | cons _ _ => exact hb.elim⟩
    | cons x r => exact (Bool.false_ne_true h).elim
  prs := fun ks vs h ho => by
    match ks, vs, ho, h with
    | [], [], _, _ => exact ⟨[], fun X pos hX => pps_nil, fun _ H0 F H σV σ r Q G S p => p [] F H G (.refl _ _ _) .nil⟩
    | some k :: ks, v :: vs, _, h => exact (Bool.false_ne_true h).elim
  prv := fun v ks vs h => (Bool.false_ne_true h).elim
theorem rd_cons {a r : E} (ha : Rd W R Ex k c a) (hr : Rd W R Ex k c r) : Rd W R Ex k c (.cons a r) where
  val := fun x h => (Bool.false_ne_true h).elim
  tst := fun x h => (Bool.false_ne_true h).elim
  itr := fun x tg h => (Bool.false_ne_true h).elim
  arg := fun xs h => by
    cases xs with
    | nil => exact (Bool.false_ne_true h).elim
    | cons x xs =>
      obtain ⟨h1, h2⟩ := ba (show (notStar x && (chk a c (.e x) && chk r c (.es xs))) = true from h)
      obtain ⟨h2, h3⟩ := ba h2
      obtain ⟨ta, pa, sa⟩ := ha.val x h2
      obtain ⟨tr, pr, sr, sr', srm⟩ := hr.arg xs h3
      exact ⟨tCons ta tr, fun X hX => pa_cons (pa X hX) (pr X hX) (starEach_of h1), sata_cons sa.toB sr, fun nb => sata_cons (sa.toC (noB_ne nb.1)) (sr' nb.2), fun bs hb => by
        cases bs with
        | nil => exact hb.elim
        | cons b bs =>
          cases b with
          | true =>
            obtain ⟨q1, q2⟩ := (show kd a = .n ∧ okM bs r from hb)
            rw [q1] at sa
            exact satm_cons sa (srm bs q2)
          | false => exact satm_cons (sa.toC (noB_ne hb.1)) (srm bs hb.2)⟩
  prs := fun ks vs h ho => by
    match ks, vs, ho, h with
    | [], [], _, h => exact (Bool.false_ne_true h).elim
    | some kx :: ks, v :: vs, ho, h =>
      obtain ⟨h1, h2⟩ := ba (show (notStar kx && (chk a c (.e kx) && chk r c (.es (v :: dfl ks vs)))) = true from h)
      obtain ⟨h2, h3⟩ := ba h2
      obtain ⟨ta, pa, sa⟩ := ha.val kx h2
      obtain ⟨tv, trs, pr, sr⟩ := hr.prv v ks vs h3 ho
      refine ⟨(ta, tv) :: trs, fun X pos hX => pps_cons (pa X hX) (pr X pos hX).1 (pr X pos hX).2, fun nb H0 F H σV σ ρ Q G S p => ?_⟩
      have p : PostP W R Ex F H Q ((ev a σ ρ).bind fun x r' => (ev r σ r').bind fun l r => match l with
        | .tup ds => .ok (.tup (x :: ds)) r
        | _ => .stuck) := p
      refine (sa.toC (noB_ne nb.1)).then_ G S (Post := PostP W R Ex F H Q) (fun z => z) (fun _ _ z => z) p fun dx r1 x F1 H1 G1 g1 S1 p1 q1 => ?_
      refine sr nb.2 H0 F1 H1 σV σ r1 (fun y ps H3 => Q ((x, y) :: ps) H3) G1 S1 ?_
      cases e : ev r σ r1 with
      | stuck => rw [e] at q1; exact q1
      | exc y r' => rw [e] at q1; exact fun cls dd F' H' a b c => q1 cls dd F' H' a (g1.trans b) c
      | ok d r' =>
        rw [e] at q1
        cases d with
        | tup ds =>
          cases ds with
          | nil =>
            obtain ⟨ds, e1, e2⟩ := ev_es h3 σ r1 _ r' e
            cases e1
            simp at e2
          | cons b ds => exact fun y ps F' H' G' g' ry rp => q1 ((x, y) :: ps) F' H' G' (g1.trans g') (.cons (Rep.mono g'.le p1) ry rp)
        | _ => exact q1
  prv := fun v ks vs h ho => by
    obtain ⟨h1, h2⟩ := ba (show (notStar v && (chk a c (.e v) && chk r c (.es (dfl ks vs)))) = true from h)
    obtain ⟨h2, h3⟩ := ba h2
    obtain ⟨ta, pa, sa⟩ := ha.val v h2
    obtain ⟨trs, pr, sr⟩ := hr.prs ks vs h3 ho
    refine ⟨ta, trs, fun X pos hX => ⟨pa X hX, pr X pos hX⟩, fun nb H0 F H σV σ ρ Q G S p => ?_⟩
    have p : PostV W R Ex F H Q ((ev a σ ρ).bind fun x r' => (ev r σ r').bind fun l r => match l with
      | .tup ds => .ok (.tup (x :: ds)) r
      | _ => .stuck) := p
    refine (sa.toC (noB_ne nb.1)).then_ G S (Post := PostV W R Ex F H Q) (fun z => z) (fun _ _ z => z) p fun dx r1 x F1 H1 G1 g1 S1 p1 q1 => ?_
    refine sr nb.2 H0 F1 H1 σV σ r1 (fun ps H3 => Q x ps H3) G1 S1 ?_
    cases e : ev r σ r1 with
    | stuck => rw [e] at q1; exact q1
    | exc y r' => rw [e] at q1; exact fun cls dd F' H' a b c => q1 cls dd F' H' a (g1.trans b) c
    | ok d r' =>
      rw [e] at q1
      cases d with
      | tup ds => exact fun ps F' H' G' g' rp => q1 x ps F' H' G' (g1.trans g') (Rep.mono g'.le p1) rp
      | _ => exact q1
/-- arguments, then an end -/
theorem satA_bind {t : TA} {f : St → Rho → Rs D} {g : List D → Rho → Rs D} {q : Kd} {te : (List V → Hp → VK → Prop)} (h : SatA W R Ex q t f)
    (hq : ∀ (F H F1 H1 : Hp) (r : Rho) (Q : VK) (vs : List V) (ds : List D), Good W R F1 H1 r → Grow R F H F1 H1 → PKs W R q H F1 H1 vs ds → PostE W R Ex .n F1 H1 Q (g ds r) → te vs H1 Q) :
    Sat W R Ex .n (fun σ H Q => t σ H fun vs H1 => te vs H1 Q) (fun σ r => (f σ r).bind fun l r => match l with
      | .tup ds => g ds r
      | _ => .stuck) := by
  intro H0 F H σV σ r Q G S p
  refine h.then_ G S (Post := PostE W R Ex .n F H Q) PostE.s PostE.x p (fun d r' hd => ?_) fun ds r1 vs F1 H1 G1 g1 S1 p1 q1 => hq F H F1 H1 r1 Q vs ds G1 g1 p1 (PostE.grow g1 q1)
  cases d <;> first | exact fun z => z | exact absurd ⟨_, rfl⟩ hd
theorem satA_bindC {t : TA} {f : St → Rho → Rs D} {g : List D → Rho → Rs D} {q : Kd} {te : (List V → Hp → VK → Prop)} (h : SatA W R Ex q t f)
    (hq : ∀ (F H F1 H1 : Hp) (r : Rho) (Q : VK) (vs : List V) (ds : List D), Good W R F1 H1 r → Grow R F H F1 H1 → PKs W R q H F1 H1 vs ds → PostE W R Ex .c F1 H1 Q (g ds r) → te vs H1 Q) :
    Sat W R Ex .c (fun σ H Q => t σ H fun vs H1 => te vs H1 Q) (fun σ r => (f σ r).bind fun l r => match l with
      | .tup ds => g ds r
      | _ => .stuck) := by
  intro H0 F H σV σ r Q G S p
  refine h.then_ G S (Post := PostE W R Ex .c F H Q) PostE.s PostE.x p (fun d r' hd => ?_) fun ds r1 vs F1 H1 G1 g1 S1 p1 q1 => hq F H F1 H1 r1 Q vs ds G1 g1 p1 (PostE.grow g1 q1)
  cases d <;> first | exact fun z => z | exact absurd ⟨_, rfl⟩ hd
theorem rd_tup {es : E} (nb : noBs es) (h : Rd W R Ex k c es) : Rd W R Ex k c (.tup es) := by
  refine .plain (fun _ => rfl) rfl (fun x h => by cases x <;> first | rfl | cases h) fun x hc => ?_
  cases x <;> try (cases hc)
  rename_i xs a pos
  obtain ⟨h1, h2⟩ := ba (show (decide (xs.length ≤ 1000) && chk es c (.es xs)) = true from hc)
  obtain ⟨t, pa, _, sa, _⟩ := h.arg xs h2
  refine ⟨tTup t, fun X hX => pe_tup (pa X hX), fun H0 F H σV σ r Q G S p => ?_⟩
  have p : PostE W R Ex .n F H Q (ev es σ r) := p
  refine sa nb H0 F H σV σ r _ G S ?_
  cases e : ev es σ r with
  | stuck => rw [e] at p; exact p
  | exc x r' => rw [e] at p; exact p
  | ok d r' =>
    rw [e] at p
    obtain ⟨ds, rfl, l⟩ := ev_es h2 σ r d r' e
    intro vs F1 H1 G1 g1 ps
    have hl : vs.length ≤ sizeLine := by
      have : xs.length ≤ 1000 := of_decide_eq_true h1
      rw [ps.length, l, sizeLine_v]; omega
    exact ⟨hl, fun p' hp => PostE.tup G1 (PostE.grow g1 p) ps.reps hl hp⟩
theorem rd_lst {es : E} (nb : noBs es) (h : Rd W R Ex k c es) : Rd W R Ex k c (.lst es) := by
  refine .plain (fun _ => rfl) rfl (fun x h => by cases x <;> first | rfl | cases h) fun x hc => ?_
  cases x <;> try (cases hc)
  rename_i xs pos
  obtain ⟨h1, h2⟩ := ba (show (decide (xs.length ≤ 1000) && chk es c (.es xs)) = true from hc)
  obtain ⟨t, pa, _, sa, _⟩ := h.arg xs h2
  refine ⟨tLst t, fun X hX => pe_lst (pa X hX), fun H0 F H σV σ r Q G S p => ?_⟩
  have p : PostE W R Ex .n F H Q ((ev es σ r).bind fun l r => match l with
    | .tup ds => .ok (.lst ds) r
    | _ => .stuck) := p
  refine sa nb H0 F H σV σ r _ G S ?_
  cases e : ev es σ r with
  | stuck => rw [e] at p; exact p
  | exc x r' => rw [e] at p; exact p
  | ok d r' =>
    rw [e] at p
    obtain ⟨ds, rfl, l⟩ := ev_es h2 σ r d r' e
    intro vs F1 H1 G1 g1 ps
    have hl : vs.length ≤ sizeLine := by
      have : xs.length ≤ 1000 := of_decide_eq_true h1
      rw [ps.length, l, sizeLine_v]; omega
    exact ⟨hl, fun p' hp => PostE.lst G1 (PostE.grow g1 p) ps.reps hl hp⟩
/-! ### subscripts, slices -/
theorem satC_bin {ta tb : TE} {fa fb : St → Rho → Rs D} {ka kb : Kd} {rr : R2} {g : D → D → Rho → Rs D} (ha : Sat W R Ex ka ta fa) (hb : Sat W R Ex kb tb fb)
    (hr : ∀ (F H : Hp) (r : Rho) (Q : VK) (x y : V) (dx dy : D), Good W R F H r → BB W R F H x dx → BB W R F H y dy → PostE W R Ex .c F H Q (g dx dy r) → rr x y H Q) :
    Sat W R Ex .c (tOp rr ta tb) (fun σ r => (fa σ r).bind fun x r => (fb σ r).bind fun y r => g x y r) := sat_bin ha hb hr
theorem rd_ix {a i : E} (ha : Rd W R Ex k c a) (hi : Rd W R Ex k c i) : Rd W R Ex k c (.ix a i) := by
  refine .plain (fun _ => rfl) rfl (fun x h => by cases x <;> first | rfl | cases h) fun x h => ?_
  cases x <;> try (cases h)
  rename_i x y pos
  have h : (notSlice y && (chk a c (.e x) && chk i c (.e y))) = true := by cases y <;> first | exact h | cases h
  obtain ⟨h1, h2⟩ := ba h
  obtain ⟨h2, h3⟩ := ba h2
  obtain ⟨ta, pa, sa⟩ := ha.val x h2
  obtain ⟨ti, pi, si⟩ := hi.val y h3
  refine ⟨tOp (rD2 W R Ex .c ixD) ta ti, fun X hX => pe_ix (ixD_ok hX.K hX.un) (pa X hX) (pi X hX) (plainIx_of h1), satC_bin sa si fun F H r Q x y dx dy G px py p => ⟨F, r, dx, dy, G, px, py, p⟩⟩
def partO (o : Option E) (σ : St) (r : Rho) : Rs (Option Int) := match o with
  | some e => (ev e σ r).bind fun y r => .lift ((intD y).map some) r
  | none => .ok none r
def chkO (o : Option E) (c : SC) (x : Option Expr) : Bool := match o, x with
  | some e, some x => chk e c (.e x)
  | none, none => true
  | _, _ => false
/-- a slice's part -/
theorem part_rd {o : Option E} (ho : ∀ e, o = some e → Rd W R Ex k c e) {x : Option Expr} (h : chkO o c x = true) : ∃ t : TO, (∀ X, XOk W c k Ex X → PO X x t) ∧
    ∀ (H0 F H : Hp) (σV : L2.St) (σ : St) (r : Rho) (Q : Option Int → Hp → Prop) {α : Type} (K : Option Int → Rho → Rs α) (Post : Rs α → Prop), Good W R F H r → StOk W R H0 F H σV σ → ¬ Post .stuck →
      (∀ x r', Post (.exc x r') → ∀ cls dd F' H', Good W R F' H' r' → Grow R F H F' H' → RepX W R F' cls dd x → Ex cls dd H') → Post ((partO o σ r).bind K) →
      (∀ i r' F' H', Good W R F' H' r' → Grow R F H F' H' → StOk W R H0 F' H' σV σ → Post (K i r') → Q i H') → t σV H Q := by
  cases o with
  | none =>
    cases x with
    | some x => exact (Bool.false_ne_true h).elim
    | none => exact ⟨tNoPart, fun X hX => po_none, fun H0 F H σV σ r Q α K Post G S hs hx p q => q none r F H G (.refl _ _ _) S p⟩
  | some e =>
    cases x with
    | none => exact (Bool.false_ne_true h).elim
    | some x =>
      obtain ⟨t, pt, st⟩ := (ho e rfl).val x h
      refine ⟨tPart t, fun X hX => po_some (pt X hX), fun H0 F H σV σ r Q α K Post G S hs hx p q => ?_⟩
      have p : Post (((ev e σ r).bind fun y r => .lift ((intD y).map some) r).bind K) := p
      have p : Post ((ev e σ r).bind fun y r => (Rs.lift ((intD y).map some) r).bind K) := by
        cases ee : ev e σ r with
        | stuck => rw [ee] at p; exact p
        | exc x r' => rw [ee] at p; exact p
        | ok d r' => rw [ee] at p; exact p
      refine st.then_ G S hs hx p fun dy r1 y F1 H1 G1 g1 S1 p1 q1 => ?_
      cases dy with
      | int i => exact ⟨i, p1.bb.int, q (some i) r1 F1 H1 G1 g1 S1 q1⟩
      | _ => exact absurd q1 hs
theorem bind_assoc {α β γ : Type} (x : Rs α) (f : α → Rho → Rs β) (g : β → Rho → Rs γ) : (x.bind f).bind g = x.bind fun a r => (f a r).bind g := by cases x <;> rfl
theorem rd_sl {a : E} {lo hi : Option E} (ha : Rd W R Ex k c a) (hlo : ∀ e, lo = some e → Rd W R Ex k c e) (hhi : ∀ e, hi = some e → Rd W R Ex k c e) : Rd W R Ex k c (.sl a lo hi) := by
  refine .plain (fun _ => rfl) rfl (fun x h => by cases x <;> first | rfl | cases h) fun x h => ?_
  cases x <;> try (cases h)
  rename_i x y pos
  cases y <;> try (cases h)
  rename_i l u st pos2
  cases st with
  | some _ => exact (Bool.false_ne_true h).elim
  | none =>
  have e0 : chk (.sl a lo hi) c (.e (.Subscript x (.Slice l u none pos2) pos)) = (chk a c (.e x) && (chkO lo c l && chkO hi c u)) := by cases lo <;> cases l <;> cases hi <;> cases u <;> rfl
  obtain ⟨h1, h2⟩ := ba (e0.symm.trans h)
  obtain ⟨h2, h3⟩ := ba h2
  obtain ⟨ta, pa, sa⟩ := ha.val x h1
  obtain ⟨tl, pl, sl⟩ := part_rd hlo h2
  obtain ⟨tu, pu, su⟩ := part_rd hhi h3
  refine ⟨tSl (fun x lo hi H Q => ∃ F r dx, Good W R F H r ∧ BB W R F H x dx ∧ PostE W R Ex .n F H Q (.lift (slD dx lo hi) r)) ta tl tu, fun X hX => pe_slice (slD_ok hX.K) (pa X hX) (pl X hX) (pu X hX), fun H0 F H σV σ r Q G S p => ?_⟩
  have e1 : ev (.sl a lo hi) σ r = (ev a σ r).bind fun x r => (partO lo σ r).bind fun l r => (partO hi σ r).bind fun h r => .lift (slD x l h) r := by cases lo <;> cases hi <;> rfl
  have p : PostE W R Ex .n F H Q ((ev a σ r).bind fun x r => (partO lo σ r).bind fun l r => (partO hi σ r).bind fun h r => .lift (slD x l h) r) := e1 ▸ p
  refine sa.then_ G S (Post := PostE W R Ex .n F H Q) PostE.s PostE.x p fun dx r1 x F1 H1 G1 g1 S1 p1 q1 => ?_
  refine sl H0 F1 H1 σV σ r1 _ _ (PostE W R Ex .n F1 H1 Q) G1 S1 PostE.s PostE.x (PostE.grow g1 q1) fun l r2 F2 H2 G2 g2 S2 q2 => ?_
  refine su H0 F2 H2 σV σ r2 _ _ (PostE W R Ex .n F2 H2 Q) G2 S2 PostE.s PostE.x (PostE.grow g2 q2) fun u r3 F3 H3 G3 g3 S3 q3 => ?_
  exact ⟨F3, r3, dx, G3, ((p1.grow g2).grow g3).bb, PostE.grow g3 q3⟩
/-! ### calls -/
theorem passes_ok (hX : XOk W c k Ex X) : Passes (L2.CX W.P W.w) X Ex := fun pins σ H s e s' I h => by
  refine passes_call hX.tk (E := Ex) (fun cls d σ H h => h) pins σ H s e s' I ?_
  rw [hX.prog, hX.w]; exact h
theorem rd_call {z : Str} {g : Fn} {es : E} (hk : 0 < k) (fs : FnS W k z g) (nb : noBs es) (h : Rd W R Ex k c es) : Rd W R Ex k c (.call z g es) := by
  have key : ∀ x, chk (.call z g es) c (.e x) = true → ∃ p a as pos, x = .Call (.Name z p) (a :: as) [] pos ∧ glB c z = true ∧ chk es c (.es (a :: as)) = true := by
    intro x h
    cases x <;> try (cases h)
    rename_i f args kws pos
    cases f <;> try (cases h)
    rename_i y p
    cases args <;> try (cases h)
    rename_i a as
    cases kws <;> try (cases h)
    obtain ⟨h1, h2⟩ := ba (show (decide (z = y) && (glB c y && chk es c (.es (a :: as)))) = true from h)
    have : z = y := of_decide_eq_true h1
    subst this
    exact ⟨p, a, as, pos, rfl, ba h2⟩
  refine .plain (fun _ => rfl) rfl (fun x h => by obtain ⟨p, a, as, pos, rfl, _⟩ := key x h; rfl) fun x hc => ?_
  obtain ⟨p, a, as, pos, rfl, h1, h2⟩ := key x hc
  obtain ⟨t, pa, _, sa, _⟩ := h.arg _ h2
  obtain ⟨f, fd, ps, e1, e2, e3, e4, e5⟩ := fs.ex
  have hst := chk_star h2
  obtain ⟨hs1, hs2⟩ := ba (show (notStar a && as.all notStar) = true from hst)
  refine ⟨tCall (spOf W ps.length g) [] Ex t, fun X hX => ?_, ?_⟩
  · obtain ⟨g1, g2⟩ := glB_of h1 hX
    have F : FnOk X.prog X.w X.K X.mg X.base (L2.CX W.P W.w) k f fd ps (spOf W ps.length g) := by rw [hX.prog, hX.w, hX.K, hX.mg, hX.base]; exact e4
    exact pe_call F (hX.room hk) g1 (by rw [hX.mg]; exact e1) (by rw [hX.K]; exact e2) (by rw [hX.K]; exact e3) .nil (passes_ok hX) (pa X hX) (not_debug g2).1 (starEach_of hs1) (back_of hs2)
  · refine satA_bindC (sa nb) fun F H F1 H1 r Q vs ds G g1 ps1 p => ?_
    rw [List.append_nil]
    refine ⟨?_, R, F1, r, ds, G, ps1.reps, p⟩
    rw [ps1.length]
    exact Classical.byContradiction fun z => by rw [e5 ds r z] at p; exact p
theorem rd_make {z : Str} {g : Fn} {es : E} (ms : ∃ j, k = j + 1 ∧ MkS W j z g) (nb : noBs es) (h : Rd W R Ex k c es) : Rd W R Ex k c (.make z g es) := by
  have key : ∀ x, chk (.make z g es) c (.e x) = true → ∃ p a as pos, x = .Call (.Name z p) (a :: as) [] pos ∧ glB c z = true ∧ chk es c (.es (a :: as)) = true := by
    intro x h
    cases x <;> try (cases h)
    rename_i f args kws pos
    cases f <;> try (cases h)
    rename_i y p
    cases args <;> try (cases h)
    rename_i a as
    cases kws <;> try (cases h)
    obtain ⟨h1, h2⟩ := ba (show (decide (z = y) && (glB c y && chk es c (.es (a :: as)))) = true from h)
    have : z = y := of_decide_eq_true h1
    subst this
    exact ⟨p, a, as, pos, rfl, ba h2⟩
  refine .plain (fun _ => rfl) rfl (fun x h => by obtain ⟨p, a, as, pos, rfl, _⟩ := key x h; rfl) fun x hc => ?_
  obtain ⟨p, a, as, pos, rfl, h1, h2⟩ := key x hc
  obtain ⟨t, pa, _, sa, _⟩ := h.arg _ h2
  obtain ⟨j, rfl, ms⟩ := ms
  obtain ⟨cn, f, fd, ps, e1, e2, e3, e4, e5⟩ := ms.ex
  have hst := chk_star h2
  obtain ⟨hs1, hs2⟩ := ba (show (notStar a && as.all notStar) = true from hst)
  refine ⟨tMake (W.ca cn) (spIn W cn ps.length g) [] Ex t, fun X hX => ?_, ?_⟩
  · obtain ⟨g1, g2⟩ := glB_of h1 hX
    have F : FnOk X.prog X.w X.K X.mg X.base (L2.CX W.P W.w) j f fd ps (spIn W cn ps.length g) := by rw [hX.prog, hX.w, hX.K, hX.mg, hX.base]; exact e4
    exact pe_make (by rw [hX.K]; exact e2) F (hX.room (by obtain ⟨j, e, _⟩ := ms; omega)) g1 (by rw [hX.mg]; exact e1) (by rw [hX.K]; exact e3) .nil (passes_ok hX) (pa X hX) (not_debug g2).1 (starEach_of hs1) (back_of hs2)
  · refine satA_bindC (sa nb) fun F H F1 H1 r Q vs ds G g1 ps1 p => ?_
    intro x dx hx hdx hne
    rw [List.append_nil]
    refine ⟨?_, R, F1, H1, r, ds, vs, x, dx, rfl, rfl, hx, hdx, hne, G, ps1.reps, ?_⟩
    · rw [List.length_cons, ps1.length]
      exact Classical.byContradiction fun z => by rw [e5 ds r z] at p; exact p
    · cases e : g ds r with
      | stuck => rw [e] at p; exact p
      | exc y r' => rw [e] at p; exact p
      | ok d r' =>
        rw [e] at p
        exact fun v F2 H2 G2 g2 p2 hv => ⟨rfl, by subst hv; exact p _ F2 H2 G2 g2 p2⟩
/-! ### fields -/
theorem look_of : ∀ {fs : List (Str × V)} {f : Str} {j : Nat}, (fs.map (·.1)).idxOf f = j → j < fs.length → ∃ v, fs.lookup f = some v ∧ (fs.map (·.2))[j]? = some v
  | [], f, j, h, l => by simp at l
  | (g, v) :: r, f, j, h, l => by
    by_cases e : g = f
    · subst e
      have : j = 0 := by rw [← h]; simp
      subst this
      exact ⟨v, by simp, by simp⟩
    · have hj : j = (r.map (·.1)).idxOf f + 1 := by
        rw [← h, List.map_cons, List.idxOf_cons]
        have : (g == f) = false := by simpa using e
        simp [this]
      subst hj
      obtain ⟨v', h1, h2⟩ := look_of (fs := r) (f := f) rfl (by simp at l; omega)
      have hb : (f == g) = false := by simpa using fun z => e z.symm
      exact ⟨v', by rw [List.lookup_cons, hb]; exact h1, by simpa using h2⟩
theorem rd_fld {o : E} {cn j : Nat} {f : Str} (nb : noB o) (fl : FldS W cn j f) (ho : Rd W R Ex k c o) : Rd W R Ex k c (.fld o cn j f) := by
  refine .plain (fun _ => rfl) rfl (fun x h => by cases x <;> first | rfl | cases h) fun x h => ?_
  cases x <;> try (cases h)
  rename_i x g pos
  obtain ⟨h1, h2⟩ := ba (show (decide (f = g) && (plainBase x && chk o c (.e x))) = true from h)
  obtain ⟨h2, h3⟩ := ba h2
  have : f = g := of_decide_eq_true h1
  subst this
  obtain ⟨t, pt, st⟩ := ho.val x h3
  refine ⟨tFld W.K t f, fun X hX => by rw [← hX.K]; exact pe_fld (pt X hX) (base_of h2), fun H0 F H σV σ r Q G S p => ?_⟩
  refine (st.toC (noB_ne nb)).then_ G S (Post := PostE W R Ex .c F H Q) PostE.s PostE.x p fun dx r1 v F1 H1 G1 g1 S1 p1 q1 => ?_
  cases dx with
  | obj c' ds =>
    have q3 : PostE W R Ex .c F H Q (if c' = cn then .lift ds[j]? r1 else .stuck) := q1
    by_cases hc : c' = cn
    · rw [if_pos hc] at q3
      subst hc
      obtain ⟨y, e1, q2⟩ := q3.lift_some
      have p1 : Rep W R F1 v (.obj c' ds) := p1
      cases p1 with
      | @obj a dx _ fs _ hF hk rs =>
        have hl : j < fs.length := by
          have := fl.lt
          rw [← hk, List.length_map] at this
          exact this
        obtain ⟨v', e2, e3⟩ := look_of (fs := fs) (f := f) (j := j) (by rw [hk]; exact fl.ix) hl
        obtain ⟨u, e4, ru⟩ := rs.get e1
        rw [e3] at e4
        cases e4
        exact ⟨a, _, dx, fs, v', rfl, G1.le _ _ hF, fl.cls, fl.no, e2, PostE.grow g1 q2 v' F1 H1 G1 (.refl _ _ _) ru⟩
    · rw [if_neg hc] at q3; exact q3.elim
  | _ => exact q1.elim
end
end DI
set_option Elab.async false
set_option linter.all false
set_option maxRecDepth 100000
/-! So: isinstance, what loops walk. -/
namespace DI
open PySem PySem.Spec PyProof.Rows
open L2 hiding ixN
section
variable {W : Wd} {R : Addr} {Ex : XK} {b : Bool} {k : Nat} {c : SC} {q : Kd} {F H F' H' F1 H1 H0 : Hp} {v : V} {d : D} {X : Cx} {e : E}
/-! ### isinstance -/
def nmTy : D → Option String
  | .non => some "NoneType" | .bl _ => some "bool" | .int _ => some "int" | .str _ => some "str" | .tup _ => some "tuple" | .lst _ => some "list"
  | _ => none
def tyS : Ty → Option String
  | .int => some "int" | .str => some "str" | .bool => some "bool" | .tuple => some "tuple" | .list => some "list" | .dict => some "dict" | .cls _ => none
theorem tyX_of {r : Rho} (G : Good W R F H r) {n : String} (h : nmTy d = some n) (p : BB W R F H v d) : TyX W.K H v (.type n) := by
  cases d with
  | non => cases h; rw [p.non]; exact .base .non
  | bl b => cases h; rw [p.bl]; exact .base (.bl b)
  | int i => cases h; rw [p.int]; exact .base (.int i)
  | str x => cases h; rw [p.str.1]; exact .base (.str x)
  | tup ds =>
    cases h
    obtain ⟨a, xs, rfl, hs, l, rs⟩ := p.tup
    rcases G.le.sqT hs with (e | ⟨o, e⟩) | ⟨o, its, n, e, e1, _⟩
    · exact .base (.tup e)
    · exact .fTuple e
    · exact .kTuple e e1
  | lst ds =>
    cases h
    obtain ⟨a, xs, rfl, hs, l, rs⟩ := p.lst G.le
    exact .base (.lst hs)
  | _ => cases h
theorem kit_D {K : PySem.W.Frag} {t : Ty} {n m : String} {b : Bool} (h1 : nmTy d = some n) (h2 : tyD d t = some b) (h3 : tyS t = some m) : PySem.W.kitOne K (.type n) (.type m) = some b := by
  refine kit_ty ?_
  cases d <;> cases h1 <;> cases t <;> cases h3 <;> (simp only [tyD, Option.some.injEq] at h2; subst h2; with_unfolding_all decide +kernel)
theorem ty_boot {T : Ty} {z : Str} (h : tyN T = some z) : ∃ n, tyS T = some n ∧ bootBuiltins z = some (.type n) ∧ z ∈ bnames := by
  cases T <;> cases h <;> exact ⟨_, rfl, by with_unfolding_all rfl, by decide⟩
def tTys : List String → TA
  | [] => tNil
  | n :: r => tCons (tC (.ty n)) (tTys r)
theorem tTys_eq {σ : L2.St} {H : Hp} : ∀ {ns : List String} {Q : List V → Hp → Prop}, Q (ns.map V.ty) H → tTys ns σ H Q
  | [], Q, h => h
  | n :: r, Q, h => tTys_eq (ns := r) (Q := fun xs H2 => Q (.ty n :: xs) H2) h
theorem chk_ty (wok : WOk W) : ∀ {ts : List Ty} {xs : List Expr}, chkTy c ts xs = true → ∃ ns : List String, ts.map tyS = ns.map some ∧ xs.all notStar = true ∧ ∀ X, XOk W c k Ex X → PA X xs (tTys ns)
  | [], [], _ => ⟨[], rfl, rfl, fun X hX => pa_nil⟩
  | T :: ts, x :: xs, h => by
    cases x <;> try (exact (Bool.false_ne_true h).elim)
    rename_i z p
    obtain ⟨h1, h2⟩ := ba (show (glB c z && ((match tyN T with | some y => decide (z = y) | none => false) && chkTy c ts xs)) = true from h)
    obtain ⟨h2, h3⟩ := ba h2
    obtain ⟨ns, e1, e3, e2⟩ := chk_ty wok h3
    cases e : tyN T with
    | none => rw [e] at h2; cases h2
    | some y =>
      rw [e] at h2
      have : z = y := of_decide_eq_true h2
      subst this
      obtain ⟨n, f1, f2, f3⟩ := ty_boot e
      refine ⟨n :: ns, by rw [List.map_cons, List.map_cons, e1, f1], by rw [List.all_cons, e3]; rfl, fun X hX => ?_⟩
      obtain ⟨g1, g2⟩ := glB_of h1 hX
      exact pa_cons (pe_bltn g1 (by rw [hX.mg]; exact wok.free _ f3) f2 rfl (ne_name g2) (not_debug g2).1) (e2 X hX) (starEach_of rfl)
theorem tys_kit {K : PySem.W.Frag} {n : String} (h1 : nmTy d = some n) : ∀ {ts : List Ty} {ns : List String} {b : Bool}, ts.map tyS = ns.map some → tysD d ts = some b → PySem.W.kitAny K (.type n) (ns.map Value.type) = some b
  | [], [], b, _, e => by cases e; rfl
  | T :: ts, m :: ns, b, h, e => by
    rw [List.map_cons, List.map_cons] at h
    obtain ⟨e1, e2⟩ := List.cons.inj h
    obtain ⟨b', h2, h3⟩ := Option.bind_eq_some_iff.mp (show ((tyD d T).bind fun b => if b then some true else tysD d ts) = some b from e)
    have q := kit_D (K := K) h1 h2 e1
    refine kitAny_cons q (fun e => ?_) (fun e => ?_)
    · subst e
      rw [if_neg (by decide)] at h3
      exact tys_kit h1 e2 h3
    · subst e
      rw [if_pos rfl] at h3
      cases h3; rfl
  | [], m :: ns, b, h, e => by cases h
  | T :: ts, [], b, h, e => by cases h
theorem tys_nm {ts : List Ty} {b : Bool} (hne : ts ≠ []) (h : tysD d ts = some b) : ∃ n, nmTy d = some n := by
  cases ts with
  | nil => exact absurd rfl hne
  | cons T ts =>
    obtain ⟨b', h2, h3⟩ := Option.bind_eq_some_iff.mp (show ((tyD d T).bind fun b => if b then some true else tysD d ts) = some b from h)
    cases d <;> first | exact ⟨_, rfl⟩ | cases h2
theorem Paired_cls : ∀ {ns : List String}, Paired ClsV (ns.map V.ty) (ns.map Value.type)
  | [] => .nil
  | n :: r => .cons (.ty n) Paired_cls
theorem rd_isi (wok : WOk W) {a : E} {ts : List Ty} (ha : Rd W R Ex k c a) : Rd W R Ex k c (.isi a ts) := by
  have key : ∀ x, chk (.isi a ts) c (.e x) = true → ∃ p x1 t pos, x = .Call (.Name "isinstance" p) [x1, t] [] pos ∧ glB c "isinstance" = true ∧ notStar x1 = true ∧ chk a c (.e x1) = true ∧
      (0 < ts.length ∧ ts.length ≤ 10) ∧ ((∃ xs n p2, t = .Tuple xs n p2 ∧ chkTy c ts xs = true) ∨ chkTy c ts [t] = true) := by
    intro x h
    cases x <;> try (cases h)
    rename_i f args kws pos
    cases f <;> try (cases h)
    rename_i y p
    match args, kws, h with
    | [x1, t], [], h =>
      obtain ⟨h1, h2⟩ := ba (show (decide (y = "isinstance") && (glB c y && (notStar x1 && (chk a c (.e x1) && chkTyA c ts t)))) = true from h)
      have : y = "isinstance" := of_decide_eq_true h1
      subst this
      obtain ⟨h2, h3⟩ := ba h2
      obtain ⟨h3, h4⟩ := ba h3
      obtain ⟨h4, h5⟩ := ba h4
      obtain ⟨h5, h6⟩ := ba h5
      refine ⟨p, x1, t, pos, rfl, h2, h3, h4, of_decide_eq_true h5, ?_⟩
      cases t <;> first | exact .inl ⟨_, _, _, rfl, h6⟩ | exact .inr h6
  refine .plain (fun _ => rfl) rfl (fun x h => by obtain ⟨p, x1, t, pos, rfl, _⟩ := key x h; rfl) fun x hc => ?_
  obtain ⟨p, x1, t, pos, rfl, h1, h2, h3, hl, h4⟩ := key x hc
  have hne : ts ≠ [] := fun e => by rw [e] at hl; exact absurd hl.1 (by decide)
  obtain ⟨ta, pa, sa⟩ := ha.val x1 h3
  have hboot : bootBuiltins ("isinstance" : Str) = some (.builtin "isinstance") := by with_unfolding_all rfl
  have star2 : ∀ {env : Env}, (backTo pos (starEach [t] env)).any (·.1) = false := fun {env} => by
    refine back_of ?_
    rcases h4 with ⟨xs, n, p2, rfl, h5⟩ | h5
    · rfl
    · exact (chk_ty (k := k) (Ex := Ex) wok h5).choose_spec.2.1
  rcases h4 with ⟨xs, n, p2, rfl, h5⟩ | h5
  · obtain ⟨ns, e1, _, e2⟩ := chk_ty (k := k) (Ex := Ex) wok h5
    refine ⟨tCB (rIsiT W.K) (tCons ta (tCons (tTup (tTys ns)) tNil)), fun X hX => ?_, fun H0 F H σV σ r Q G S p => ?_⟩
    · obtain ⟨g1, g2⟩ := glB_of h1 hX
      rw [← hX.K]
      exact pe_callB call_isiT g1 (by rw [hX.mg]; exact wok.free _ (by decide)) hboot (pa_cons (pa X hX) (pa_cons (pe_tup (e2 X hX)) pa_nil (starEach_of rfl)) (starEach_of h2)) (by decide) (by decide) (starEach_of h2) star2
    · refine sa.then_ G S (Post := PostE W R Ex .n F H Q) PostE.s PostE.x p fun dx r1 v F1 H1 G1 g1 S1 p1 q1 => ?_
      obtain ⟨d, hd, q2⟩ := q1.lift_some
      obtain ⟨b, hb, rfl⟩ := Option.map_eq_some_iff.mp hd
      obtain ⟨n, hn⟩ := tys_nm hne hb
      have hlen : ns.length = ts.length := by
        have := congrArg List.length e1
        simpa using this.symm
      refine tTys_eq ⟨?_, fun tp htp => ?_⟩
      · rw [List.length_map, hlen, sizeLine_v]; omega
      · obtain ⟨G2, g2⟩ := G1.tup_new (xs := ns.map V.ty) htp
        exact ⟨v, tp, ns.map V.ty, .type n, ns.map Value.type, b, rfl, upd_same, Paired_cls, tyX_of G2 hn (p1.grow g2).bb, tys_kit hn e1 hb, q2 _ _ _ G2 (g1.trans g2) PK.bl'⟩
  · obtain ⟨ns, e1, _, e2⟩ := chk_ty (k := k) (Ex := Ex) wok h5
    have hn1 : ns.length = 1 := by
      have e3 : ts.length = 1 := by
        match ts, h5 with
        | [T], _ => rfl
        | T :: U :: r, h5 => 
          exfalso
          cases t <;> first | exact (Bool.false_ne_true h5).elim | (have h6 := (ba (ba h5).2).2; exact (Bool.false_ne_true h6).elim)
      have := congrArg List.length e1
      simp at this; omega
    obtain ⟨m, rfl⟩ : ∃ m, ns = [m] := by
      match ns, hn1 with
      | [m], _ => exact ⟨m, rfl⟩
    refine ⟨tCB (rIsi W.K) (tCons ta (tTys [m])), fun X hX => ?_, fun H0 F H σV σ r Q G S p => ?_⟩
    · obtain ⟨g1, g2⟩ := glB_of h1 hX
      rw [← hX.K]
      exact pe_callB call_isi g1 (by rw [hX.mg]; exact wok.free _ (by decide)) hboot (pa_cons (pa X hX) (e2 X hX) (starEach_of h2)) (by decide) (by decide) (starEach_of h2) star2
    · refine sa.then_ G S (Post := PostE W R Ex .n F H Q) PostE.s PostE.x p fun dx r1 v F1 H1 G1 g1 S1 p1 q1 => ?_
      obtain ⟨d, hd, q2⟩ := q1.lift_some
      obtain ⟨b, hb, rfl⟩ := Option.map_eq_some_iff.mp hd
      obtain ⟨n, hn⟩ := tys_nm hne hb
      obtain ⟨T, rfl, hT⟩ : ∃ T, ts = [T] ∧ tyS T = some m := by
        have hl1 : ts.length = 1 := by simpa using congrArg List.length e1
        obtain ⟨T, rfl⟩ := List.length_eq_one_iff.mp hl1
        exact ⟨T, rfl, by simpa using e1⟩
      have hb' : tyD dx T = some b := by
        obtain ⟨b', h2, h3⟩ := Option.bind_eq_some_iff.mp (show ((tyD dx T).bind fun b => if b then some true else tysD dx []) = some b from hb)
        rw [h2]
        cases b' with
        | true => rw [if_pos rfl] at h3; exact h3
        | false => rw [if_neg (by decide)] at h3; exact h3
      exact tTys_eq ⟨v, .ty m, .type n, .type m, b, rfl, .ty m, tyX_of G1 hn p1.bb, kit_D hn hb' hT, q2 _ _ _ G1 g1 PK.bl'⟩
theorem iso_ins {r : Rho} {c' : Nat} {ds : List D} (G : Good W R F H r) (h : BB W R F H v (.obj c' ds)) : ∃ a' dx fs, v = .ref a' ∧ H a' = some (.ins (W.ca c') dx fs) := by
  rcases h with h | h
  · cases h with
    | obj h _ _ => exact ⟨_, _, _, rfl, G.le _ _ h⟩
  · rcases h with ⟨p, xs, ds, _, e, _⟩ | ⟨p, xs, ds, _, e, _⟩ <;> cases e
theorem rd_iso (wok : WOk W) {a : E} {cn : Nat} {y : Str} (ok : IsoS W cn y) (ha : Rd W R Ex k c a) : Rd W R Ex k c (.iso a cn y) := by
  have key : ∀ x, chk (.iso a cn y) c (.e x) = true → ∃ p x1 p2 pos, x = .Call (.Name "isinstance" p) [x1, .Name y p2] [] pos ∧ glB c "isinstance" = true ∧ notStar x1 = true ∧ chk a c (.e x1) = true ∧ glB c y = true := by
    intro x h
    cases x <;> try (exact (Bool.false_ne_true h).elim)
    rename_i f args kws pos
    cases f <;> try (exact (Bool.false_ne_true h).elim)
    rename_i z p
    match args, kws, h with
    | [x1, .Name y' p2], [], h =>
      obtain ⟨h1, h2⟩ := ba (show (decide (z = "isinstance") && (glB c z && (notStar x1 && (chk a c (.e x1) && (decide (y = y') && glB c y))))) = true from h)
      have : z = "isinstance" := of_decide_eq_true h1
      subst this
      obtain ⟨k2, k3⟩ := ba h2
      obtain ⟨k3a, k4⟩ := ba k3
      obtain ⟨k4a, k5⟩ := ba k4
      obtain ⟨k5a, k6⟩ := ba k5
      have e : y = y' := of_decide_eq_true k5a
      subst e
      exact ⟨p, x1, p2, pos, rfl, k2, k3a, k4a, k6⟩
  refine .plain (fun _ => rfl) rfl (fun x h => by obtain ⟨p, x1, p2, pos, rfl, _⟩ := key x h; rfl) fun x hc => ?_
  obtain ⟨p, x1, p2, pos, rfl, h1, h2, h3, h4⟩ := key x hc
  obtain ⟨ta, pa, sa⟩ := ha.val x1 h3
  have hboot : bootBuiltins ("isinstance" : Str) = some (.builtin "isinstance") := by with_unfolding_all rfl
  refine ⟨tCB (rIsi W.K) (tCons ta (tCons (tC (.ref (W.ca cn))) tNil)), fun X hX => ?_, fun H0 F H σV σ r Q G S p => ?_⟩
  · obtain ⟨g1, g2⟩ := glB_of h1 hX
    obtain ⟨g3, g4⟩ := glB_of h4 hX
    rw [← hX.K]
    exact pe_callB call_isi g1 (by rw [hX.mg]; exact wok.free _ (by decide)) hboot (pa_cons (pa X hX) (pa_cons (pe_glob g3 (by rw [hX.mg]; exact ok.mg) rfl (not_debug g4).1) pa_nil (starEach_of rfl)) (starEach_of h2)) (by decide) (by decide) (starEach_of h2) (back_of rfl)
  · refine sa.then_ G S (Post := PostE W R Ex .n F H Q) PostE.s PostE.x p fun dx r1 v F1 H1 G1 g1 S1 p1 q1 => ?_
    cases dx with
    | obj c' ds =>
      have q2 : PostE W R Ex .n F H Q (if c' = cn then .ok (.bl true) r1 else .stuck) := q1
      by_cases hc : c' = cn
      · subst hc
        rw [if_pos rfl] at q2
        obtain ⟨a', dx, fs, rfl, e1⟩ := iso_ins G1 p1.bb
        exact ⟨.ref a', .ref (W.ca c'), .ref (W.ca c'), .ref (W.ca c'), true, rfl, .own _, .base (.ins e1 ok.cl ok.ha ok.hn ok.htk ok.hm), by unfold PySem.W.kitOne; rw [if_pos (by simp)], q2 _ _ _ G1 g1 PK.bl'⟩
      · rw [if_neg hc] at q2; exact q2.elim
    | _ => exact q1.elim
/-! ### what loops walk -/
theorem call_key {y : Str} {f : Expr} {args : List Expr} {kws : List Keyword} {pos : Pos} : True := trivial
theorem rng_fin {lo : Int} {n : Nat} {r' : Rho} {Q : It → Hp → Prop} (hn : n ≤ sizeLine) (G : Good W R F1 H1 r') (p : PostI W R Ex b F H Q (.ok (.lst (rngL lo n)) r')) (g : Grow R F H F1 H1) : Q (Itr lo n) H1 := by
  obtain ⟨ds, e, q⟩ := p
  cases e
  exact q _ F1 H1 G g walks_rng (by unfold rngL; simpa using hn)
theorem rngC_fin {lo cc : Int} {n : Nat} {r' : Rho} {Q : It → Hp → Prop} (hn : n ≤ sizeLine) (G : Good W R F1 H1 r') (p : PostI W R Ex b F H Q (.ok (.lst (rngC lo cc n)) r')) (g : Grow R F H F1 H1) : Q (Itc lo cc n) H1 := by
  obtain ⟨ds, e, q⟩ := p
  cases e
  exact q _ F1 H1 G g walks_rngC (by unfold rngC; simpa using hn)
theorem rd_rng1 (wok : WOk W) {a : E} (ha : Rd W R Ex k c a) : (∀ x, chk (.rng1 a) c (.i x) = true → plainTest x = true) ∧ ∀ x tg, chk (.rng1 a) c (.i x) = true → ∃ wi, (∀ X, XOk W c k Ex X → PI X tg x wi) ∧ ∀ b, SatI W R Ex b wi (ev (.rng1 a)) := by
  have key : ∀ x, chk (.rng1 a) c (.i x) = true → ∃ p x1 pos, x = .Call (.Name "range" p) [x1] [] pos ∧ glB c "range" = true ∧ notStar x1 = true ∧ chk a c (.e x1) = true := by
    intro x h
    cases x <;> try (cases h)
    rename_i f args kws pos
    cases f <;> try (cases h)
    rename_i y p
    match args, kws, h with
    | [x1], [], h =>
      obtain ⟨h1, h2⟩ := ba (show (decide (y = "range") && (glB c y && (notStar x1 && chk a c (.e x1)))) = true from h)
      have : y = "range" := of_decide_eq_true h1
      subst this
      obtain ⟨h2, h3⟩ := ba h2
      exact ⟨p, x1, pos, rfl, h2, ba h3⟩
  refine ⟨fun x h => by obtain ⟨p, x1, pos, rfl, _⟩ := key x h; rfl, fun x tg h => ?_⟩
  obtain ⟨p, x1, pos, rfl, h1, h2, h3⟩ := key x h
  obtain ⟨ta, pa, sa⟩ := ha.val x1 h3
  refine ⟨iRng1 (tCons ta tNil), fun X hX => ?_, fun b H0 F H σV σ r Q G S p => ?_⟩
  · obtain ⟨g1, g2⟩ := glB_of h1 hX
    exact pi_range1 g1 (by rw [hX.mg]; exact wok.free _ (by decide)) (pa_cons (pa X hX) pa_nil (starEach_of h2)) (starEach_of h2)
  · refine sa.then_ G S (Post := PostI W R Ex b F H Q) PostI.s PostI.x p fun dx r1 v F1 H1 G1 g1 S1 p1 q1 => ?_
    cases dx with
    | int j =>
      have q2 : PostI W R Ex b F H Q (if -(2 ^ 62) ≤ j ∧ j ≤ 16000000 then .ok (.lst (rngL 0 j.toNat)) r1 else .stuck) := q1
      by_cases hj : -(2 ^ 62) ≤ j ∧ j ≤ 16000000
      · rw [if_pos hj] at q2
        rw [p1.bb.int]
        exact ⟨j, rfl, hj.1, by omega, rng_fin (by rw [sizeLine_v]; omega) G1 q2 g1⟩
      · rw [if_neg hj] at q2; exact q2.elim
    | _ => exact q1.elim
theorem rd_rng2 (wok : WOk W) {a a2 : E} (ha : Rd W R Ex k c a) (ha2 : Rd W R Ex k c a2) : (∀ x, chk (.rng2 a a2) c (.i x) = true → plainTest x = true) ∧ ∀ x tg, chk (.rng2 a a2) c (.i x) = true → ∃ wi, (∀ X, XOk W c k Ex X → PI X tg x wi) ∧ ∀ b, SatI W R Ex b wi (ev (.rng2 a a2)) := by
  have key : ∀ x, chk (.rng2 a a2) c (.i x) = true → ∃ p x1 x2 pos, x = .Call (.Name "range" p) [x1, x2] [] pos ∧ glB c "range" = true ∧ notStar x1 = true ∧ notStar x2 = true ∧ chk a c (.e x1) = true ∧ chk a2 c (.e x2) = true := by
    intro x h
    cases x <;> try (cases h)
    rename_i f args kws pos
    cases f <;> try (cases h)
    rename_i y p
    match args, kws, h with
    | [x1, x2], [], h =>
      obtain ⟨h1, h2⟩ := ba (show (decide (y = "range") && (glB c y && (notStar x1 && (notStar x2 && (chk a c (.e x1) && chk a2 c (.e x2)))))) = true from h)
      have : y = "range" := of_decide_eq_true h1
      subst this
      obtain ⟨h2, h3⟩ := ba h2
      obtain ⟨h3, h4⟩ := ba h3
      obtain ⟨h4, h5⟩ := ba h4
      exact ⟨p, x1, x2, pos, rfl, h2, h3, h4, ba h5⟩
  refine ⟨fun x h => by obtain ⟨p, x1, x2, pos, rfl, _⟩ := key x h; rfl, fun x tg h => ?_⟩
  obtain ⟨p, x1, x2, pos, rfl, h1, h2, h2', h3, h4⟩ := key x h
  obtain ⟨ta, pa, sa⟩ := ha.val x1 h3
  obtain ⟨tb, pb, sb⟩ := ha2.val x2 h4
  refine ⟨iRng2 (tCons ta (tCons tb tNil)), fun X hX => ?_, fun b H0 F H σV σ r Q G S p => ?_⟩
  · obtain ⟨g1, g2⟩ := glB_of h1 hX
    exact pi_range2 g1 (by rw [hX.mg]; exact wok.free _ (by decide)) (pa_cons (pa X hX) (pa_cons (pb X hX) pa_nil (starEach_of h2')) (starEach_of h2)) (by rw [starEach_of h2, starEach_of h2']; rfl) (starEach_of h2')
  · refine sa.then_ G S (Post := PostI W R Ex b F H Q) PostI.s PostI.x p fun dx r1 v F1 H1 G1 g1 S1 p1 q1 => ?_
    refine sb.then_ G1 S1 (Post := PostI W R Ex b F1 H1 Q) PostI.s PostI.x (PostI.grow g1 q1) fun dy r2 u F2 H2 G2 g2 S2 p2 q2 => ?_
    cases dx with
    | int i =>
      cases dy with
      | int j =>
        have q3 : PostI W R Ex b F1 H1 Q (if -(2 ^ 62) ≤ i ∧ i < 2 ^ 62 ∧ -(2 ^ 62) ≤ j ∧ j < 2 ^ 62 ∧ j - i ≤ 16000000 then .ok (.lst (rngL i (j - i).toNat)) r2 else .stuck) := q2
        by_cases hj : -(2 ^ 62) ≤ i ∧ i < 2 ^ 62 ∧ -(2 ^ 62) ≤ j ∧ j < 2 ^ 62 ∧ j - i ≤ 16000000
        · rw [if_pos hj] at q3
          rw [p1.bb.int, p2.bb.int]
          exact ⟨i, j, rfl, ⟨hj.1, hj.2.1, hj.2.2.1, hj.2.2.2.1⟩, rng_fin (by rw [sizeLine_v]; omega) G2 q3 g2⟩
        · rw [if_neg hj] at q3; exact q3.elim
      | _ => exact q2.elim
    | _ => exact q2.elim
theorem rg_step {i j k : Int} (h : 0 < k ∧ k < 1073741824 ∧ -(2 ^ 60) ≤ i ∧ i < 2 ^ 60 ∧ -(2 ^ 60) ≤ j ∧ j < 2 ^ 60 ∧ j - i ≤ 16000000) : RgC i j k ((j - i + k - 1) / k).toNat ∧ ((j - i + k - 1) / k).toNat ≤ 16000000 := by
  obtain ⟨h1, h2, h3, h4, h5, h6, h7⟩ := h
  have hs : Builtin.Range.rangeSize i j k = (((j - i + k - 1) / k).toNat : Int) ∧ ((j - i + k - 1) / k).toNat ≤ 16000000 := by
    unfold Builtin.Range.rangeSize
    rw [if_pos (show k > 0 from h1)]
    by_cases hij : i < j
    · rw [if_pos hij]
      have e : j - i + k - 1 = (j - i - 1) + 1 * k := by omega
      have e1 : 0 ≤ (j - i - 1) / k := Int.ediv_nonneg (by omega) (by omega)
      have e2 : (j - i - 1) / k ≤ j - i - 1 := Int.ediv_le_self _ (by omega)
      rw [e, Int.add_mul_ediv_right _ _ (by omega)]
      exact ⟨by omega, by omega⟩
    · rw [if_neg hij]
      have e1 : (j - i + k - 1) / k ≤ (k - 1) / k := Int.ediv_le_ediv h1 (by omega)
      have e0 : (k - 1) / k = 0 := Int.ediv_eq_zero_of_lt (by omega) (by omega)
      rw [e0] at e1
      exact ⟨by omega, by omega⟩
  refine ⟨⟨by omega, by omega, ?_, hs.1⟩, hs.2⟩
  unfold Builtin.Range.small
  rw [hs.1]
  simp only [Builtin.Range.rangeFitsLong, Bool.and_eq_true, Bool.or_eq_true, decide_eq_true_eq, beq_iff_eq, show (k > 0) from h1, if_true]
  have := hs.2
  omega
theorem rd_rng3 (wok : WOk W) {a a2 a3 : E} (ha : Rd W R Ex k c a) (ha2 : Rd W R Ex k c a2) (ha3 : Rd W R Ex k c a3) : ∀ x tg, chk (.rng3 a a2 a3) c (.i x) = true → ∃ wi, (∀ X, XOk W c k Ex X → PI X tg x wi) ∧ ∀ b, SatI W R Ex b wi (ev (.rng3 a a2 a3)) := by
  have key : ∀ x, chk (.rng3 a a2 a3) c (.i x) = true → ∃ p x1 x2 x3 pos, x = .Call (.Name "range" p) [x1, x2, x3] [] pos ∧ glB c "range" = true ∧ notStar x1 = true ∧ notStar x2 = true ∧ notStar x3 = true ∧ chk a c (.e x1) = true ∧ chk a2 c (.e x2) = true ∧ chk a3 c (.e x3) = true := by
    intro x h
    cases x <;> try (cases h)
    rename_i f args kws pos
    cases f <;> try (cases h)
    rename_i y p
    match args, kws, h with
    | [x1, x2, x3], [], h =>
      obtain ⟨h1, h2⟩ := ba (show (decide (y = "range") && (glB c y && (notStar x1 && (notStar x2 && (notStar x3 && (chk a c (.e x1) && (chk a2 c (.e x2) && chk a3 c (.e x3)))))))) = true from h)
      have : y = "range" := of_decide_eq_true h1
      subst this
      obtain ⟨h2, h3⟩ := ba h2
      obtain ⟨h3, h4⟩ := ba h3
      obtain ⟨h4, h5⟩ := ba h4
      obtain ⟨h5, h6⟩ := ba h5
      obtain ⟨h6, h7⟩ := ba h6
      exact ⟨p, x1, x2, x3, pos, rfl, h2, h3, h4, h5, h6, ba h7⟩
  intro x tg h
  obtain ⟨p, x1, x2, x3, pos, rfl, h1, s1, s2, s3, h2, h3, h4⟩ := key x h
  obtain ⟨ta, pa, sa⟩ := ha.val x1 h2
  obtain ⟨tb, pb, sb⟩ := ha2.val x2 h3
  obtain ⟨tc, pc, sc⟩ := ha3.val x3 h4
  refine ⟨iRng3 (tCons ta (tCons tb (tCons tc tNil))), fun X hX => ?_, fun b H0 F H σV σ r Q G S p => ?_⟩
  · obtain ⟨g1, g2⟩ := glB_of h1 hX
    exact pi_range3 g1 (by rw [hX.mg]; exact wok.free _ (by decide)) (pa_cons (pa X hX) (pa_cons (pb X hX) (pa_cons (pc X hX) pa_nil (starEach_of s3)) (starEach_of s2)) (starEach_of s1)) (starEach_of s1) (by rw [starEach_of s2, starEach_of s3]; rfl)
  · refine sa.then_ G S (Post := PostI W R Ex b F H Q) PostI.s PostI.x p fun dx r1 v F1 H1 G1 g1 S1 p1 q1 => ?_
    refine sb.then_ G1 S1 (Post := PostI W R Ex b F1 H1 Q) PostI.s PostI.x (PostI.grow g1 q1) fun dy r2 u F2 H2 G2 g2 S2 p2 q2 => ?_
    refine sc.then_ G2 S2 (Post := PostI W R Ex b F2 H2 Q) PostI.s PostI.x (PostI.grow g2 q2) fun dz r3 z F3 H3 G3 g3 S3 p3 q3 => ?_
    cases dx with
    | int i =>
      cases dy with
      | int j =>
        cases dz with
        | int n =>
          have q4 : PostI W R Ex b F2 H2 Q (if 0 < n ∧ n < 1073741824 ∧ -(2 ^ 60) ≤ i ∧ i < 2 ^ 60 ∧ -(2 ^ 60) ≤ j ∧ j < 2 ^ 60 ∧ j - i ≤ 16000000 then .ok (.lst (rngC i n ((j - i + n - 1) / n).toNat)) r3 else .stuck) := q3
          by_cases hj : 0 < n ∧ n < 1073741824 ∧ -(2 ^ 60) ≤ i ∧ i < 2 ^ 60 ∧ -(2 ^ 60) ≤ j ∧ j < 2 ^ 60 ∧ j - i ≤ 16000000
          · rw [if_pos hj] at q4
            rw [p1.bb.int, p2.bb.int, p3.bb.int]
            exact ⟨i, j, n, _, rfl, (rg_step hj).1, rngC_fin (by rw [sizeLine_v]; have := (rg_step hj).2; omega) G3 q4 g3⟩
          · rw [if_neg hj] at q4; exact q4.elim
        | _ => exact q3.elim
      | _ => exact q3.elim
    | _ => exact q3.elim
theorem seq_then {t : TE} {f : St → Rho → Rs D} {ka : Kd} (hk : kLe ka (kdI b)) (h : Sat W R Ex ka t f) : Sat W R Ex (kdI b) t f := h.toK hk
theorem rd_enum (wok : WOk W) {a : E} (ha : Rd W R Ex k c a) : (∀ x, chk (.enum a) c (.i x) = true → plainTest x = true) ∧ ∀ x tg, chk (.enum a) c (.i x) = true → isTup tg = true → ∃ wi, (∀ X, XOk W c k Ex X → PI X tg x wi) ∧ ∀ b, kLe (kd a) (kdI b) → SatI W R Ex b wi (ev (.enum a)) := by
  have key : ∀ x, chk (.enum a) c (.i x) = true → ∃ p x1 pos, x = .Call (.Name "enumerate" p) [x1] [] pos ∧ glB c "enumerate" = true ∧ notStar x1 = true ∧ chk a c (.e x1) = true := by
    intro x h
    cases x <;> try (cases h)
    rename_i f args kws pos
    cases f <;> try (cases h)
    rename_i y p
    match args, kws, h with
    | [x1], [], h =>
      obtain ⟨h1, h2⟩ := ba (show (decide (y = "enumerate") && (glB c y && (notStar x1 && chk a c (.e x1)))) = true from h)
      have : y = "enumerate" := of_decide_eq_true h1
      subst this
      obtain ⟨h2, h3⟩ := ba h2
      exact ⟨p, x1, pos, rfl, h2, ba h3⟩
  refine ⟨fun x h => by obtain ⟨p, x1, pos, rfl, _⟩ := key x h; rfl, fun x tg h ht => ?_⟩
  obtain ⟨p, x1, pos, rfl, h1, h2, h3⟩ := key x h
  obtain ⟨ta, pa, sa⟩ := ha.val x1 h3
  refine ⟨iEnumS W.K (tCons ta tNil), fun X hX => ?_, fun b hk H0 F H σV σ r Q G S p => ?_⟩
  · obtain ⟨g1, g2⟩ := glB_of h1 hX
    cases tg <;> try (exact (Bool.false_ne_true ht).elim)
    rw [← hX.K]
    exact pi_enumS g1 (by rw [hX.mg]; exact wok.free _ (by decide)) (pa_cons (pa X hX) pa_nil (starEach_of h2)) (starEach_of h2)
  · refine (sa.toK hk).then_ G S (Post := PostI W R Ex b F H Q) PostI.s PostI.x p fun dx r1 v F1 H1 G1 g1 S1 p1 q1 => ?_
    obtain ⟨d, hd, q2⟩ := q1.lift_some
    obtain ⟨ds, hds, rfl⟩ := Option.map_eq_some_iff.mp hd
    obtain ⟨z, xs, rfl, hl, hz, hw⟩ := src_of G1 hds p1
    obtain ⟨hq, rs⟩ := hw F1 H1 r1 G1 (LtOf.of_grow (.refl _ _ _))
    obtain ⟨es, he, q3⟩ := q2
    cases he
    exact ⟨z, xs, rfl, hq, q3 _ F1 H1 G1 g1 (walks_enum hw) (by rw [enumL_len]; exact hz)⟩
end
end DI
set_option Elab.async false
set_option linter.all false
set_option maxRecDepth 100000
/-! Sp: zip; comprehensions. -/
namespace DI
open PySem PySem.Spec PyProof.Rows
open L2 hiding ixN
section
variable {W : Wd} {R : Addr} {Ex : XK} {b : Bool} {k : Nat} {c : SC} {q : Kd} {F H F' H' F1 H1 H0 : Hp} {v : V} {d : D} {X : Cx} {e : E}
theorem rd_zip (wok : WOk W) {a a2 : E} (ha : Rd W R Ex k c a) (ha2 : Rd W R Ex k c a2) : (∀ x, chk (.zip a a2) c (.i x) = true → plainTest x = true) ∧ ∀ x tg, chk (.zip a a2) c (.i x) = true → isTup tg = true → ∃ wi, (∀ X, XOk W c k Ex X → PI X tg x wi) ∧ ∀ b, kLe (kd a) (kdI b) → kLe (kd a2) (kdI b) → SatI W R Ex b wi (ev (.zip a a2)) := by
  have key : ∀ x, chk (.zip a a2) c (.i x) = true → ∃ p x1 x2 pos, x = .Call (.Name "zip" p) [x1, x2] [] pos ∧ glB c "zip" = true ∧ notStar x1 = true ∧ notStar x2 = true ∧ chk a c (.e x1) = true ∧ chk a2 c (.e x2) = true := by
    intro x h
    cases x <;> try (cases h)
    rename_i f args kws pos
    cases f <;> try (cases h)
    rename_i y p
    match args, kws, h with
    | [x1, x2], [], h =>
      obtain ⟨h1, h2⟩ := ba (show (decide (y = "zip") && (glB c y && (notStar x1 && (notStar x2 && (chk a c (.e x1) && chk a2 c (.e x2)))))) = true from h)
      have : y = "zip" := of_decide_eq_true h1
      subst this
      obtain ⟨h2, h3⟩ := ba h2
      obtain ⟨h3, h4⟩ := ba h3
      obtain ⟨h4, h5⟩ := ba h4
      exact ⟨p, x1, x2, pos, rfl, h2, h3, h4, ba h5⟩
  refine ⟨fun x h => by obtain ⟨p, x1, x2, pos, rfl, _⟩ := key x h; rfl, fun x tg h ht => ?_⟩
  obtain ⟨p, x1, x2, pos, rfl, h1, h2, h2', h3, h4⟩ := key x h
  obtain ⟨ta, pa, sa⟩ := ha.val x1 h3
  obtain ⟨tb, pb, sb⟩ := ha2.val x2 h4
  refine ⟨iZipS W.K (tCons ta (tCons tb tNil)), fun X hX => ?_, fun b hk hk2 H0 F H σV σ r Q G S p => ?_⟩
  · obtain ⟨g1, g2⟩ := glB_of h1 hX
    cases tg <;> try (exact (Bool.false_ne_true ht).elim)
    rw [← hX.K]
    exact pi_zipS g1 (by rw [hX.mg]; exact wok.free _ (by decide)) (pa_cons (pa X hX) (pa_cons (pb X hX) pa_nil (starEach_of h2')) (starEach_of h2)) (starEach_of h2) (back_of (by rw [List.all_cons, h2']; rfl))
  · refine (sa.toK hk).then_ G S (Post := PostI W R Ex b F H Q) PostI.s PostI.x p fun dx r1 v F1 H1 G1 g1 S1 p1 q1 => ?_
    refine (sb.toK hk2).then_ G1 S1 (Post := PostI W R Ex b F1 H1 Q) PostI.s PostI.x (PostI.grow g1 q1) fun dy r2 u F2 H2 G2 g2 S2 p2 q2 => ?_
    obtain ⟨d, hd, q3⟩ := q2.lift_some
    obtain ⟨ds, hds, hd2⟩ := Option.bind_eq_some_iff.mp hd
    obtain ⟨es, hes, rfl⟩ := Option.map_eq_some_iff.mp hd2
    obtain ⟨z, xs, rfl, hl, hz, hw⟩ := src_of G2 hds (p1.grow g2)
    obtain ⟨z2, ys, rfl, hl2, hz2, hw2⟩ := src_of G2 hes p2
    obtain ⟨hq, rs⟩ := hw F2 H2 r2 G2 (LtOf.of_grow (.refl _ _ _))
    obtain ⟨hq2, rs2⟩ := hw2 F2 H2 r2 G2 (LtOf.of_grow (.refl _ _ _))
    obtain ⟨fs, he, q4⟩ := q3
    cases he
    exact ⟨z, z2, xs, ys, rfl, hq, hq2, q4 _ F2 H2 G2 g2 (walks_zip hw hw2) (by rw [zipL_len]; omega)⟩
theorem rd_zip3 (wok : WOk W) {a a2 a3 : E} (ha : Rd W R Ex k c a) (ha2 : Rd W R Ex k c a2) (ha3 : Rd W R Ex k c a3) : (∀ x, chk (.zip3 a a2 a3) c (.i x) = true → plainTest x = true) ∧ ∀ x tg, chk (.zip3 a a2 a3) c (.i x) = true → isTup tg = true →
    ∃ wi, (∀ X, XOk W c k Ex X → PI X tg x wi) ∧ ∀ b, kLe (kd a) (kdI b) → kLe (kd a2) (kdI b) → kLe (kd a3) (kdI b) → SatI W R Ex b wi (ev (.zip3 a a2 a3)) := by
  have key : ∀ x, chk (.zip3 a a2 a3) c (.i x) = true → ∃ p x1 x2 x3 pos, x = .Call (.Name "zip" p) [x1, x2, x3] [] pos ∧ glB c "zip" = true ∧ notStar x1 = true ∧ notStar x2 = true ∧ notStar x3 = true ∧ chk a c (.e x1) = true ∧ chk a2 c (.e x2) = true ∧ chk a3 c (.e x3) = true := by
    intro x h
    cases x <;> try (cases h)
    rename_i f args kws pos
    cases f <;> try (cases h)
    rename_i y p
    match args, kws, h with
    | [x1, x2, x3], [], h =>
      obtain ⟨h1, h2⟩ := ba (show (decide (y = "zip") && (glB c y && (notStar x1 && (notStar x2 && (notStar x3 && (chk a c (.e x1) && (chk a2 c (.e x2) && chk a3 c (.e x3)))))))) = true from h)
      have : y = "zip" := of_decide_eq_true h1
      subst this
      obtain ⟨h2, h3⟩ := ba h2
      obtain ⟨h3, h4⟩ := ba h3
      obtain ⟨h4, h5⟩ := ba h4
      obtain ⟨h5, h6⟩ := ba h5
      obtain ⟨h6, h7⟩ := ba h6
      exact ⟨p, x1, x2, x3, pos, rfl, h2, h3, h4, h5, h6, ba h7⟩
  refine ⟨fun x h => by obtain ⟨p, x1, x2, x3, pos, rfl, _⟩ := key x h; rfl, fun x tg h ht => ?_⟩
  obtain ⟨p, x1, x2, x3, pos, rfl, h1, h2, h2', h2'', h3, h4, h5⟩ := key x h
  obtain ⟨ta, pa, sa⟩ := ha.val x1 h3
  obtain ⟨tb, pb, sb⟩ := ha2.val x2 h4
  obtain ⟨td, pd, sd⟩ := ha3.val x3 h5
  refine ⟨iZip3S W.K (tCons ta (tCons tb (tCons td tNil))), fun X hX => ?_, fun b hk hk2 hk3 H0 F H σV σ r Q G S p => ?_⟩
  · obtain ⟨g1, g2⟩ := glB_of h1 hX
    cases tg <;> try (exact (Bool.false_ne_true ht).elim)
    rw [← hX.K]
    exact pi_zip3S g1 (by rw [hX.mg]; exact wok.free _ (by decide)) (pa_cons (pa X hX) (pa_cons (pb X hX) (pa_cons (pd X hX) pa_nil (starEach_of h2'')) (starEach_of h2')) (starEach_of h2)) (starEach_of h2) (back_of (by rw [List.all_cons, h2', List.all_cons, h2'']; rfl))
  · refine (sa.toK hk).then_ G S (Post := PostI W R Ex b F H Q) PostI.s PostI.x p fun dx r1 v F1 H1 G1 g1 S1 p1 q1 => ?_
    refine (sb.toK hk2).then_ G1 S1 (Post := PostI W R Ex b F1 H1 Q) PostI.s PostI.x (PostI.grow g1 q1) fun dy r2 u F2 H2 G2 g2 S2 p2 q2 => ?_
    refine (sd.toK hk3).then_ G2 S2 (Post := PostI W R Ex b F2 H2 Q) PostI.s PostI.x (PostI.grow g2 q2) fun dz r3 u3 F3 H3 G3 g3 S3 p3 q3 => ?_
    obtain ⟨d, hd, q4⟩ := q3.lift_some
    obtain ⟨ds, hds, hd2⟩ := Option.bind_eq_some_iff.mp hd
    obtain ⟨es, hes, hd3⟩ := Option.bind_eq_some_iff.mp hd2
    obtain ⟨fs, hfs, rfl⟩ := Option.map_eq_some_iff.mp hd3
    obtain ⟨z, xs, rfl, hl, hz, hw⟩ := src_of G3 hds ((p1.grow g2).grow g3)
    obtain ⟨z2, ys, rfl, hl2, hz2, hw2⟩ := src_of G3 hes (p2.grow g3)
    obtain ⟨z3, zs, rfl, hl3, hz3, hw3⟩ := src_of G3 hfs p3
    obtain ⟨hq, rs⟩ := hw F3 H3 r3 G3 (LtOf.of_grow (.refl _ _ _))
    obtain ⟨hq2, rs2⟩ := hw2 F3 H3 r3 G3 (LtOf.of_grow (.refl _ _ _))
    obtain ⟨hq3, rs3⟩ := hw3 F3 H3 r3 G3 (LtOf.of_grow (.refl _ _ _))
    obtain ⟨gs, he, q5⟩ := q4
    cases he
    exact ⟨z, z2, z3, xs, ys, zs, rfl, hq, hq2, hq3, q5 _ F3 H3 G3 g3 (walks_zip3 hw hw2 hw3) (by rw [zip3L_len]; omega)⟩
/-! ### targets -/
def SatG (W : Wd) (R : Addr) (ix : List Nat) (t : TG) (f : D → St → Option St) : Prop := ∀ (H0 F H : Hp) (σV : L2.St) (σ σ' : St) (r : Rho) (v : V) (d : D) (Q : L2.St → Hp → Prop),
  Good W R F H r → StOk W R H0 F H σV σ → Rep W R F v d → f d σ = some σ' → (∀ σV', StOk W R H0 F H σV' σ' → σV'.length = σV.length → (∀ i, i ∉ ix → σV'[i]? = σV[i]?) → Q σV' H) → t v σV H Q
def SatGs (W : Wd) (R : Addr) (ix : List Nat) (t : TGs) (f : List D → St → Option St) : Prop := ∀ (H0 F H : Hp) (σV : L2.St) (σ σ' : St) (r : Rho) (vs : List V) (ds : List D) (Q : L2.St → Hp → Prop),
  Good W R F H r → StOk W R H0 F H σV σ → Reps W R F vs ds → f ds σ = some σ' → (∀ σV', StOk W R H0 F H σV' σ' → σV'.length = σV.length → (∀ i, i ∉ ix → σV'[i]? = σV[i]?) → Q σV' H) → t vs σV H Q
theorem StOk.set {σV : L2.St} {σ : St} {i : Nat} {s : Slot} {o : Option V} (S : StOk W R H0 F H σV σ) (h : SlotOk W R H0 F H o s)
    (ap : ∀ j u a, j ≠ i → σ[j]? = some u → isOwn s = true → isOwn u = true → o = some (.ref a) → σV[j]? ≠ some (some (.ref a))) : StOk W R H0 F H (σV.set i o) (σ.set i s) := by
  refine ⟨by rw [List.length_set, List.length_set, S.len], fun j u hj => ?_, fun j l u w a hj hl hu hw hja hla => ?_⟩
  · by_cases e : i = j
    · subst e
      rw [List.getElem?_set] at hj ⊢
      have hlen : i < σ.length := by
        by_cases z : i < σ.length
        · exact z
        · rw [if_pos rfl, if_neg z] at hj; cases hj
      rw [if_pos rfl, if_pos hlen] at hj
      rw [if_pos rfl, if_pos (by rw [S.len]; exact hlen)]
      cases hj
      exact h
    · rw [List.getElem?_set_ne e] at hj ⊢
      exact S.at_ j u hj
  · by_cases e1 : i = j
    · by_cases e2 : i = l
      · omega
      · exfalso
        subst e1
        rw [List.getElem?_set_ne e2] at hl hla
        have hlen : i < σ.length := by
          by_cases z : i < σ.length
          · exact z
          · rw [List.getElem?_set, if_pos rfl, if_neg z] at hj; cases hj
        rw [List.getElem?_set, if_pos rfl, if_pos hlen] at hj
        rw [List.getElem?_set, if_pos rfl, if_pos (by rw [S.len]; exact hlen)] at hja
        cases hj
        cases hja
        exact ap l w a (fun z => e2 z.symm) hl hu hw rfl hla
    · rw [List.getElem?_set_ne e1] at hj hja
      by_cases e2 : i = l
      · exfalso
        subst e2
        have hlen : i < σ.length := by
          by_cases z : i < σ.length
          · exact z
          · rw [List.getElem?_set, if_pos rfl, if_neg z] at hl; cases hl
        rw [List.getElem?_set, if_pos rfl, if_pos hlen] at hl
        rw [List.getElem?_set, if_pos rfl, if_pos (by rw [S.len]; exact hlen)] at hla
        cases hl
        cases hla
        exact ap j u a (fun z => e1 z.symm) hj hw hu rfl hja
      · rw [List.getElem?_set_ne e2] at hl hla
        exact S.apart j l u w a hj hl hu hw hja hla
theorem locB_of {x : Str} {i : Nat} (h : locB c x i = true) (hX : XOk W c k Ex X) : X.N[i]? = some x ∧ Loc X.env.scope x ∧ (X.fn x = true ∨ X.env.scope.names.lookup x = some .local) := by
  obtain ⟨h1, h2⟩ := ba h
  obtain ⟨h2, h3⟩ := ba h2
  refine ⟨by rw [hX.N]; exact of_decide_eq_true h1, ?_, ?_⟩
  · show _ ∨ _
    rw [hX.sc]
    cases e : c.sc.names.lookup x with
    | none => rw [e] at h2; cases h2
    | some kk => rw [e] at h2; cases kk <;> first | exact .inl rfl | exact .inr rfl | cases h2
  · rw [hX.fn, hX.sc]
    rcases Bool.or_eq_true_iff.mp h3 with z | z
    · exact .inl z
    · exact .inr (of_decide_eq_true z)
theorem findIdx_none {l : List (Bool × (Value → Sem Unit))} (h : l.any (·.1) = false) : l.findIdx? (·.1) = none := by
  rw [List.findIdx?_eq_none_iff]
  intro x hx
  have := List.any_eq_false.mp h x hx
  simpa using this
theorem assignEach_of {x : Expr} {xs : List Expr} {env : Env} (h : notStar x = true) : assignEach (x :: xs) env = (false, assign x env) :: assignEach xs env := by
  cases x <;> first | rfl | cases h
theorem chkTs_star : ∀ {ts : Tg} {xs : List Expr}, chkTs c ts xs = true → ∀ env, (assignEach xs env).any (·.1) = false ∧ (assignEach xs env).length = xs.length
  | .nil, [], _, env => ⟨rfl, rfl⟩
  | .cons t r, x :: xs, h, env => by
    obtain ⟨h1, h2⟩ := ba (show (notStar x && (chkT c t x && chkTs c r xs)) = true from h)
    obtain ⟨h3, h4⟩ := chkTs_star (ba h2).2 env
    rw [assignEach_of h1]
    exact ⟨by rw [List.any_cons, h3]; rfl, by rw [List.length_cons, List.length_cons, h4]⟩
theorem asgs_len : ∀ {ts : Tg} {xs : List Expr} {ds : List D} {σ σ' : St}, chkTs c ts xs = true → asgs ts ds σ = some σ' → ds.length = xs.length
  | .nil, [], [], σ, σ', _, _ => rfl
  | .cons t r, x :: xs, d :: ds, σ, σ', h, e => by
    obtain ⟨h1, h2⟩ := ba (show (notStar x && (chkT c t x && chkTs c r xs)) = true from h)
    obtain ⟨σ1, e1, e2⟩ := Option.bind_eq_some_iff.mp (show ((asg t d σ).bind fun σ' => asgs r ds σ') = some σ' from e)
    rw [List.length_cons, List.length_cons, asgs_len (ba h2).2 e2]
  | .nil, [], d :: ds, σ, σ', _, e => by cases e
  | .cons t r, x :: xs, [], σ, σ', _, e => by cases e
mutual
theorem tg_ok (hk : 0 < k) : ∀ (tg : Tg) (x : Expr), chkT c tg x = true → ∃ g, (∀ X, XOk W c k Ex X → PG X x g) ∧ SatG W R (tgIx tg) g (asg tg)
  | .nm i, x, h => by
    cases x <;> try (exact (Bool.false_ne_true h).elim)
    rename_i x pos
    refine ⟨gName i, fun X hX => ?_, fun H0 F H σV σ σ' r v d Q G S rv e q => ?_⟩
    · obtain ⟨h1, h2, h3⟩ := locB_of h hX
      exact pg_name (by rw [hX.N]; exact hX.nd) h1 h2 h3
    · cases e
      refine q _ (S.set ⟨v, rfl, rv⟩ fun j u a _ _ hw => by cases hw) (List.length_set ..) fun j hj => ?_
      exact List.getElem?_set_ne (fun z => hj (by rw [z]; exact List.mem_singleton.mpr rfl))
  | .tup ts, x, h => by
    cases x <;> try (exact (Bool.false_ne_true h).elim)
    rename_i xs n pos
    obtain ⟨gs, h1, h2⟩ := tgs_ok hk ts xs h
    refine ⟨gTup W.K xs.length gs, fun X hX => ?_, fun H0 F H σV σ σ' r v d Q G S rv e q => ?_⟩
    · rw [← hX.K]
      obtain ⟨e1, e2⟩ := chkTs_star (c := c) h X.env
      exact pg_tup (hX.calm hk) (h1 X hX) e2 (findIdx_none e1)
    · cases d <;> try (cases e)
      rename_i ds
      have e : asgs ts ds σ = some σ' := e
      cases rv with
      | tup hq l rs => exact ⟨_, _, rfl, G.le.sqT hq, by rw [rs.length]; exact asgs_len h e, h2 H0 F H σV σ σ' r _ ds Q G S rs e q⟩
  | .nil, x, h => by cases x <;> exact (Bool.false_ne_true h).elim
  | .cons _ _, x, h => by cases x <;> exact (Bool.false_ne_true h).elim
theorem tgs_ok (hk : 0 < k) : ∀ (ts : Tg) (xs : List Expr), chkTs c ts xs = true → ∃ g, (∀ X, XOk W c k Ex X → PGs X xs g) ∧ SatGs W R (tgIx ts) g (asgs ts)
  | .nil, [], h => ⟨gNil, fun X hX => pgs_nil, fun H0 F H σV σ σ' r vs ds Q G S rs e q => by
      cases rs with
      | nil => cases e; exact ⟨rfl, q _ S rfl fun _ _ => rfl⟩
      | cons _ _ => cases e⟩
  | .cons t r, x :: xs, h => by
    obtain ⟨h1, h2⟩ := ba (show (notStar x && (chkT c t x && chkTs c r xs)) = true from h)
    obtain ⟨h2, h3⟩ := ba h2
    obtain ⟨g, g1, g2⟩ := tg_ok hk t x h2
    obtain ⟨gs, g3, g4⟩ := tgs_ok hk r xs h3
    refine ⟨gCons g gs, fun X hX => pgs_cons (g1 X hX) (g3 X hX) (by rw [assignEach_of h1]; rfl), fun H0 F H σV σ σ' ρ vs ds Q G S rs e q => ?_⟩
    cases rs with
    | nil => cases e
    | @cons v vs d ds rv rs =>
      obtain ⟨σ1, e1, e2⟩ := Option.bind_eq_some_iff.mp (show ((asg t d σ).bind fun σ' => asgs r ds σ') = some σ' from e)
      refine ⟨v, vs, rfl, g2 H0 F H σV σ σ1 ρ v d _ G S rv e1 fun σV1 S1 l1 u1 => g4 H0 F H σV1 σ1 σ' ρ vs ds Q G S1 rs e2 fun σV2 S2 l2 u2 => q σV2 S2 (l2.trans l1) fun i hi => ?_⟩
      have hm : i ∉ tgIx t ∧ i ∉ tgIx r := ⟨fun z => hi (List.mem_append_left _ z), fun z => hi (List.mem_append_right _ z)⟩
      rw [u2 i hm.2, u1 i hm.1]
  | .nil, _ :: _, h => (Bool.false_ne_true h).elim
  | .cons _ _, [], h => (Bool.false_ne_true h).elim
  | .nm _, xs, h => by cases xs <;> exact (Bool.false_ne_true h).elim
  | .tup _, xs, h => by cases xs <;> exact (Bool.false_ne_true h).elim
end
/-! ### comprehensions -/
theorem wipe_get {σV : L2.St} {i : Nat} : ∀ {vs : List Nat}, (wipe σV vs)[i]? = if i ∈ vs ∧ i < σV.length then some none else σV[i]?
  | [] => by simp [wipe]
  | v :: vs => by
    show ((wipe σV vs).set v none)[i]? = _
    rw [List.getElem?_set, wipe_length, wipe_get (vs := vs)]
    by_cases e : v = i
    · subst e
      by_cases l : v < σV.length
      · simp [l]
      · simp [l, List.getElem?_eq_none (Nat.le_of_not_lt l)]
    · have : i ∈ v :: vs ↔ i ∈ vs := by simp [show ¬ i = v from fun z => e z.symm]
      simp only [if_neg e, this]
theorem killS_len : ∀ {is : List Nat} {σ : St}, (killS σ is).length = σ.length
  | [], _ => rfl
  | i :: r, σ => by show (killS (σ.set i .un) r).length = _; rw [killS_len, List.length_set]
theorem killS_get {i : Nat} : ∀ {vs : List Nat} {σ : St}, (killS σ vs)[i]? = if i ∈ vs ∧ i < σ.length then some .un else σ[i]?
  | [], σ => by simp [killS]
  | v :: vs, σ => by
    show (killS (σ.set v .un) vs)[i]? = _
    rw [killS_get (vs := vs), List.length_set, List.getElem?_set]
    by_cases e : v = i
    · subst e
      by_cases l : v < σ.length
      · simp [l]
      · simp [l, List.getElem?_eq_none (Nat.le_of_not_lt l)]
    · have : i ∈ v :: vs ↔ i ∈ vs := by simp [show ¬ i = v from fun z => e z.symm]
      simp only [if_neg e, this]
theorem StOk.kill {σV : L2.St} {σ : St} (S : StOk W R H0 F H σV σ) (vs : List Nat) : StOk W R H0 F H (wipe σV vs) (killS σ vs) := by
  refine ⟨by rw [wipe_length, killS_len, S.len], fun i s e => ?_, fun i j s u a hi hj hs hu ha hb => ?_⟩
  · rw [killS_get] at e
    by_cases m : i ∈ vs ∧ i < σ.length
    · rw [if_pos m] at e; cases e; trivial
    · rw [if_neg m] at e
      rw [wipe_get, S.len, if_neg m]
      exact S.at_ i s e
  · have g : ∀ i s, (killS σ vs)[i]? = some s → isOwn s = true → ¬ (i ∈ vs ∧ i < σ.length) ∧ σ[i]? = some s := fun i s e o => by
      rw [killS_get] at e
      by_cases m : i ∈ vs ∧ i < σ.length
      · rw [if_pos m] at e; cases e; cases o
      · rw [if_neg m] at e; exact ⟨m, e⟩
    obtain ⟨m1, e1⟩ := g i s hi hs
    obtain ⟨m2, e2⟩ := g j u hj hu
    rw [wipe_get, S.len, if_neg m1] at ha
    rw [wipe_get, S.len, if_neg m2] at hb
    exact S.apart i j s u a e1 e2 hs hu ha hb
theorem wipe_same {σ1 σ2 : L2.St} {vs : List Nat} (hl : σ1.length = σ2.length) (h : ∀ i, i ∉ vs → σ1[i]? = σ2[i]?) : wipe σ1 vs = wipe σ2 vs := by
  refine List.ext_getElem? fun i => ?_
  rw [wipe_get, wipe_get, hl]
  by_cases m : i ∈ vs ∧ i < σ2.length
  · rw [if_pos m, if_pos m]
  · rw [if_neg m, if_neg m]
    by_cases v : i ∈ vs
    · have l : ¬ i < σ2.length := fun z => m ⟨v, z⟩
      rw [List.getElem?_eq_none (by omega), List.getElem?_eq_none (by omega)]
    · exact h i v
theorem wipe_wipe {σ : L2.St} {vs : List Nat} : wipe (wipe σ vs) vs = wipe σ vs := wipe_same (wipe_length _ _) fun i hi => by rw [wipe_get, if_neg (fun z => hi z.1)]
/-- the block of a comprehension -/
theorem XOk.blk (hX : XOk W c k Ex X) (s : Shared) (H : Hp) (sc' : Scope) (C : Addr) (cl : List (Str × Addr)) (fp : List Addr) : XOk W (blkSC c sc') k (fun _ _ _ => False) (X.blk s H sc' (compEnvC sc' cl C X.env) fp) where
  prog := hX.prog
  w := hX.w
  K := hX.K
  mg := hX.mg
  base := hX.base
  N := hX.N
  sc := by
    show relabel sc' X.env = relS sc' c.sc
    rw [← hX.sc]; rfl
  fn := rfl
  nd := hX.nd
  calm := hX.calm
  room := hX.room
  un0 := hX.un0
  gd := fun z => hX.gd z
  lcx := fun z => nomatch z
  hot := fun z => nomatch z
  tk := takes0
  lm := hX.lm
def bodyC (tg : Tg) (ifs : Option E) (elt : E) (σk : St) (d : D) (r : Rho) : Rs (Option D) := match asg tg d σk with
  | some σ' => (match ifs with
    | some c => (ev c σ' r).bind fun b r => (match b with
      | .bl true => (ev elt σ' r).bind fun y r => .ok (some y) r
      | .bl false => .ok none r
      | _ => .stuck)
    | none => (ev elt σ' r).bind fun y r => .ok (some y) r)
  | none => .stuck
theorem ev_comp (own : List (Str × Nat)) (tg : Tg) (it : E) (ifs : Option E) (elt : E) (σ : St) (r : Rho) : ev (.comp own tg it ifs elt) σ r = (ev it σ r).bind fun x r => match iterD x with
    | some ds => ((mapR (bodyC tg ifs elt (killS σ (own.map (·.2)))) ds r).bind fun l r => .ok (.lst l) r).calm
    | none => .stuck := by
  cases ifs <;> (unfold bodyC; simp only [ev] <;> rfl)
theorem bind_ok_inv {α β : Type} {x : Rs α} {f : α → Rho → Rs β} {y : β} {r' : Rho} (h : x.bind f = .ok y r') : ∃ a r, x = .ok a r ∧ f a r = .ok y r' := by
  cases x with
  | stuck => cases h
  | exc _ _ => cases h
  | ok a r => exact ⟨a, r, rfl, h⟩
end
end DI
set_option Elab.async false
set_option linter.all false
set_option maxRecDepth 100000
/-! Sq: comprehensions have a reading that is met. -/
namespace DI
open PySem PySem.Spec PyProof.Rows
open L2 hiding ixN
section
variable {W : Wd} {R : Addr} {Ex : XK} {b : Bool} {k : Nat} {c : SC} {q : Kd} {F H F' H' F1 H1 H0 : Hp} {v : V} {d : D} {X : Cx} {e : E}
abbrev NoX : XK := fun _ _ _ => False
def chkIfs (ifs : Option E) (c : SC) (fs : List Expr) : Bool := match ifs, fs with
  | some e, [f] => chk e c (.e f)
  | none, [] => true
  | _, _ => false
def ifEv (ifs : Option E) (σ : St) (r : Rho) (b : Bool) (r' : Rho) : Prop := match ifs with
  | some e => ev e σ r = .ok (.bl b) r'
  | none => b = true ∧ r' = r
/-- the tests of a clause -/
theorem ifs_ok {ifs : Option E} {fs : List Expr} (hi : ∀ e, ifs = some e → Rd W R NoX k c e) (h : chkIfs ifs c fs = true) :
    ∃ tt : TT, (∀ X, XOk W c k NoX X → PTs X fs tt) ∧ ∀ (H0 F H : Hp) (σV : L2.St) (σ : St) (r r' : Rho) (b : Bool) (Q : Bool → Hp → Prop), Good W R F H r → StOk W R H0 F H σV σ →
      ifEv ifs σ r b r' → (∀ F' H', Good W R F' H' r' → Grow R F H F' H' → Q b H') → tt σV H Q := by
  cases ifs with
  | none =>
    cases fs with
    | nil => exact ⟨tYes, fun X hX => pts_nil, fun H0 F H σV σ r r' b Q G S hb q => by obtain ⟨rfl, rfl⟩ := hb; exact q F H G (.refl _ _ _)⟩
    | cons f fs => exact (Bool.false_ne_true h).elim
  | some e =>
    match fs, h with
    | [f], h =>
      obtain ⟨t, pt, st⟩ := (hi e rfl).tst f h
      refine ⟨t, fun X hX => pts_one (pt X hX).1, fun H0 F H σV σ r r' b Q G S hb q => st H0 F H σV σ r Q G S ?_⟩
      have hb : ev e σ r = .ok (.bl b) r' := hb
      rw [hb]
      exact q
theorem mapR_cons {f : D → Rho → Rs (Option D)} {d : D} {ds : List D} {r r' : Rho} {L : List D} (h : mapR f (d :: ds) r = .ok L r') :
    ∃ o r1 l, f d r = .ok o r1 ∧ mapR f ds r1 = .ok l r' ∧ L = (match o with | some x => x :: l | none => l) := by
  obtain ⟨o, r1, e1, h⟩ := bind_ok_inv (show (f d r).bind (fun o r => (mapR f ds r).bind fun l r => .ok (match o with | some x => x :: l | none => l) r) = .ok L r' from h)
  obtain ⟨l, r2, e2, h⟩ := bind_ok_inv h
  cases h
  exact ⟨o, r1, l, e1, e2, rfl⟩
theorem bodyC_inv {tg : Tg} {ifs : Option E} {elt : E} {σk : St} {o : Option D} {r r' : Rho} (h : bodyC tg ifs elt σk d r = .ok o r') :
    ∃ σ' b r1, asg tg d σk = some σ' ∧ ifEv ifs σ' r b r1 ∧
      ((b = true ∧ ∃ y, ev elt σ' r1 = .ok y r' ∧ o = some y) ∨ (b = false ∧ o = none ∧ r' = r1)) := by
  unfold bodyC at h
  cases e : asg tg d σk with
  | none => rw [e] at h; cases h
  | some σ' =>
    rw [e] at h
    cases ifs with
    | none =>
      obtain ⟨y, r2, e2, h⟩ := bind_ok_inv h
      cases h
      exact ⟨σ', true, r, rfl, ⟨rfl, rfl⟩, .inl ⟨rfl, y, e2, rfl⟩⟩
    | some cc =>
      obtain ⟨x, r1, e1, h⟩ := bind_ok_inv h
      cases x with
      | bl b =>
        cases b with
        | true =>
          obtain ⟨y, r2, e2, h⟩ := bind_ok_inv h
          cases h
          exact ⟨σ', true, r1, rfl, e1, .inl ⟨rfl, y, e2, rfl⟩⟩
        | false => cases h; exact ⟨σ', false, _, rfl, e1, .inr ⟨rfl, rfl, rfl⟩⟩
      | _ => cases h
/-- a list of our own is written -/
theorem Good.write {D : Addr} {o o' : HO} {r : Rho} (G : Good W R F H r) (hD : H D = some o) (nt : ¬ IsTbl o) (nf : ∀ x u, o ≠ .frz x u) (nc : ∀ φ, o ≠ .ext φ) (fD : F D = none) (nR : D ≠ R) (no : match o' with | .ext _ => False | _ => True := by trivial) : Good W R F (upd H D o') r := by
  obtain ⟨a, e1, e2⟩ := G.row
  have keep : ∀ b u, b ≠ D → H b = some u → upd H D o' b = some u := fun b u hb e => by rw [upd_ne hb]; exact e
  refine ⟨fun b u q => ?_, G.fR, G.ft, ⟨a, keep _ _ nR.symm e1, e2⟩, fun p hp => ?_, fun c q hc => ?_⟩
  · exact keep _ _ (fun z => by rw [z, fD] at q; cases q) (G.le _ _ q)
  · obtain ⟨ps, h1, h2, h3⟩ := G.tabs p hp
    refine ⟨ps, keep _ _ (fun z => ?_) h1, h2, fun pos cv hc => ?_⟩
    · rw [z, hD] at h1; cases h1; exact nt ⟨ps, rfl⟩
    · obtain ⟨c, c1, c2⟩ := h3 pos cv hc
      exact ⟨c, c1, keep _ _ (fun z => by rw [z, hD] at c2; cases c2; exact nc _ rfl) c2⟩
  · by_cases hb : c = D
    · rw [hb, upd_same] at hc; exact absurd (Option.some.inj hc) (notCode no _ _)
    · rw [upd_ne hb] at hc; exact G.cod c q hc
theorem comp_val (hk : 0 < k) {own : List (Str × Nat)} {tg : Tg} {it elt : E} {ifs : Option E} (nb : noB elt) (hit : Rd W R Ex k c it)
    (hifs : ∀ sc' e, ifs = some e → Rd W R NoX k (blkSC c sc') e) (helt : ∀ sc', Rd W R NoX k (blkSC c sc') elt) : ∀ x, chk (.comp own tg it ifs elt) c (.e x) = true → plainTest x = true ∧ ∃ t, (∀ X, XOk W c k Ex X → PE X x t) ∧
      (∀ X, XOk W c k Ex X → ∀ i y py spos, X.N[i]? = some y → X.env.scope.names.lookup y = some .local → swapsWith x (some (.Name y py)) spos.line X.env = pure true → PS X (.Assign [.Name y py] x spos) (tAsg t (gName i))) ∧ Sat W R Ex .n t (ev (.comp own tg it ifs elt)) := by
  have key : ∀ x, chk (.comp own tg it ifs elt) c (.e x) = true → ∃ x1 t i fs sc' pos, x = .ListComp x1 [⟨t, i, fs, 0⟩] sc' pos ∧ blkC c.N c.sc sc' own = true ∧ (own.map (·.2)).all (fun k => decide (k < c.N.length)) = true ∧
      (tgIx tg).all (fun k => (own.map (·.2)).contains k) = true ∧ (needT it = true → isTup t = true) ∧ notSet i = true ∧ chk it c (axI it i) = true ∧ chkT (blkSC c sc') tg t = true ∧ chk elt (blkSC c sc') (.e x1) = true ∧
      chkIfs ifs (blkSC c sc') fs = true := by
    intro x h
    cases x <;> try (exact (Bool.false_ne_true h).elim)
    rename_i x1 gs sc' pos
    match gs, h with
    | [⟨t, i, fs, 0⟩], h =>
      have e0 : chk (.comp own tg it ifs elt) c (.e (.ListComp x1 [⟨t, i, fs, 0⟩] sc' pos)) = (blkC c.N c.sc sc' own && ((own.map (·.2)).all (fun k => decide (k < c.N.length)) && ((tgIx tg).all (fun k => (own.map (·.2)).contains k) && ((!needT it || isTup t) && (notSet i && (chk it c (axI it i) && (chkT (blkSC c sc') tg t && (chk elt (blkSC c sc') (.e x1) &&
      chkIfs ifs (blkSC c sc') fs)))))))) := by
        cases ifs with
        | none => cases fs <;> rfl
        | some e => match fs with
          | [] => rfl
          | [f] => rfl
          | _ :: _ :: _ => rfl
      obtain ⟨h1, h2⟩ := ba (e0.symm.trans h)
      obtain ⟨h2, h3⟩ := ba h2
      obtain ⟨h3, h4⟩ := ba h3
      obtain ⟨h4, h5⟩ := ba h4
      obtain ⟨h5, h6⟩ := ba h5
      obtain ⟨h6, h7⟩ := ba h6
      obtain ⟨h7, h8⟩ := ba h7
      obtain ⟨h8, h9⟩ := ba h8
      refine ⟨x1, t, i, fs, sc', pos, rfl, h1, h2, h3, fun z => ?_, h5, h6, h7, h8, h9⟩
      rw [z] at h4
      exact h4
  intro x h
  obtain ⟨x1, t, i, fs, sc', pos, rfl, h1, h2, h3, h4, h5, h6, h7, h8, h9⟩ := key x h
  obtain ⟨wi, pi, si, _⟩ := hit.itr i t h6 h4
  obtain ⟨g, pg, sg⟩ := tg_ok (W := W) (R := R) (Ex := NoX) (k := k) hk tg t h7
  obtain ⟨te, pe, se⟩ := (helt sc').val x1 h8
  obtain ⟨tt, pt, st⟩ := ifs_ok (hifs sc') h9
  refine ⟨rfl, tLc wi g tt te (own.map (·.2)), fun X hX => ?_, fun X hX i' y py spos hi' hy hsw => ?_, fun H0 F H σV σ r Q G S p => ?_⟩
  · exact pe_lc (hX.calm hk) (by rw [hX.N]; exact hX.nd) (pi X hX) (by rw [hX.N, hX.sc]; exact blkOk_by h1) (fun s H C cl fp => pg _ (hX.blk s H sc' C cl fp)) (fun s H C cl fp => pt _ (hX.blk s H sc' C cl fp)) (fun s H C cl fp => pe _ (hX.blk s H sc' C cl fp)) (set_of h5)
  · exact ps_setLc (hX.calm hk) (by rw [hX.N]; exact hX.nd) hi' hy hsw (pi X hX) (by rw [hX.N, hX.sc]; exact blkOk_by h1) (fun s H C cl fp => pg _ (hX.blk s H sc' C cl fp)) (fun s H C cl fp => pt _ (hX.blk s H sc' C cl fp)) (fun s H C cl fp => pe _ (hX.blk s H sc' C cl fp)) (set_of h5)
  · rw [ev_comp] at p
    have p : PostE W R Ex .n F H Q _ := p
    refine si H0 F H σV σ r _ G S ?_
    cases e : ev it σ r with
    | stuck => rw [e] at p; exact p
    | exc x r' => rw [e] at p; exact p
    | ok d r1 =>
      rw [e] at p
      have p : PostE W R Ex .n F H Q (match iterD d with
        | some ds => ((mapR (bodyC tg ifs elt (killS σ (own.map (·.2)))) ds r1).bind fun l r => .ok (.lst l) r).calm
        | none => .stuck) := p
      cases ei : iterD d with
      | none => rw [ei] at p; exact p.elim
      | some ds =>
        rw [ei] at p
        refine ⟨ds, ei, fun J F1 H1 G1 g1 wk hlen D hD => ?_⟩
        cases em : mapR (bodyC tg ifs elt (killS σ (own.map (·.2)))) ds r1 with
        | stuck => simp only [em] at p; exact p.elim
        | exc x r' => simp only [em] at p; exact p.elim
        | ok L rL =>
          simp only [em] at p
          have p : PostE W R Ex .n F H Q (.ok (.lst L) rL) := p
          have DR : D ≠ R := G1.neR hD
          refine ⟨fun i m H2 => ∃ F2 r2 acc accD l, i ≤ ds.length ∧ m = ds.length - i ∧ Good W R F2 H2 r2 ∧ Grow R F1 H1 F2 H2 ∧ H2 D = some (.lst acc) ∧ F2 D = none ∧ Reps W R F2 acc accD ∧ acc.length ≤ i ∧
            mapR (bodyC tg ifs elt (killS σ (own.map (·.2)))) (ds.drop i) r2 = .ok l rL ∧ accD ++ l = L, ⟨ds.length, F1, r1, [], [], L, Nat.zero_le _, rfl, G1.new hD, ⟨Le.refl _, .new hD, fun b q1 q2 => absurd q1 q2⟩, upd_same, G1.fNone hD, .nil, Nat.le_refl _, em, rfl⟩, ?_⟩
          rintro i m H2 ⟨F2, r2, acc, accD, l, hi, rfl, G2, g2, hacc, fD, rs, hal, hm, hL⟩
          obtain ⟨w1, w2⟩ := wk i F2 H2 r2 G2 g2
          by_cases hlt : i < ds.length
          · right
            obtain ⟨d', hd'⟩ : ∃ d', ds[i]? = some d' := ⟨ds[i], by simp [hlt]⟩
            obtain ⟨go, yl⟩ := w1 d' hd'
            have hdrop : ds.drop i = d' :: ds.drop (i + 1) := by
              rw [List.drop_eq_getElem_cons hlt]
              congr 1
              have := List.getElem?_eq_some_iff.mp hd'
              exact this.2
            rw [hdrop] at hm
            obtain ⟨o, r3, l', hb, hm', hl'⟩ := mapR_cons hm
            obtain ⟨σ', bb, r4, ha, hif, hor⟩ := bodyC_inv hb
            refine ⟨go, fun H3 => ∃ F3 r5 acc accD l, Good W R F3 H3 r5 ∧ Grow R F1 H1 F3 H3 ∧ H3 D = some (.lst acc) ∧ F3 D = none ∧ Reps W R F3 acc accD ∧ acc.length ≤ i + 1 ∧
              mapR (bodyC tg ifs elt (killS σ (own.map (·.2)))) (ds.drop (i + 1)) r5 = .ok l rL ∧ accD ++ l = L, fun H3 ⟨F3, r5, acc, accD, l, a1, a2, a3, a4, a5, a6, a7, a8⟩ => ⟨ds.length - (i + 1), by omega, F3, r5, acc, accD, l, hlt, rfl, a1, a2, a3, a4, a5, a6, a7, a8⟩, fun x H3 hy => ?_⟩
            obtain ⟨F3, G3, g3, rx⟩ := yl x H3 hy
            have S3 : StOk W R H0 F3 H3 (wipe σV (own.map (·.2))) (killS σ (own.map (·.2))) := (((S.grow g1).grow g2).grow g3).kill _
            refine sg H0 F3 H3 _ _ σ' r2 x d' _ G3 S3 rx ha fun σV' S4 hlen' hsame => ⟨?_, ?_⟩
            · rw [← wipe_wipe (σ := σV)]
              refine wipe_same hlen' fun j hj => hsame j fun z => hj ?_
              have := List.all_eq_true.mp h3 j z
              simpa using this
            · refine st H0 F3 H3 σV' σ' r2 r4 bb _ G3 S4 hif fun F4 H4 G4 g4 => ?_
              have kD : H4 D = some (.lst acc) := g4.kept.at_ (g3.kept.at_ hacc DR nt_lst) DR nt_lst
              have fD4 : F4 D = none := g4.stays (g3.stays fD hacc) (g3.kept.at_ hacc DR nt_lst)
              have gg : Grow R F1 H1 F4 H4 := (g2.trans g3).trans g4
              have rs4 : Reps W R F4 acc accD := (rs.mono g3.le).mono g4.le
              rcases hor with ⟨rfl, y, hy2, rfl⟩ | ⟨rfl, rfl, rfl⟩
              · rw [if_pos rfl]
                refine (se.toC (noB_ne nb)) H0 F4 H4 σV' σ' r4 _ G4 (S4.grow g4) ?_
                rw [hy2]
                refine fun vy F5 H5 G5 g5 py => ⟨acc, g5.kept.at_ kD DR nt_lst, by omega, F5, r3, acc ++ [vy], accD ++ [y], l', ?_, ?_, upd_same, g5.stays fD4 kD, (rs4.mono g5.le).append (.cons py .nil), by rw [List.length_append]; show acc.length + 1 ≤ i + 1; omega, hm', by rw [List.append_assoc, ← hL, hl']; rfl⟩
                · exact G5.write (g5.kept.at_ kD DR nt_lst) nt_lst (fun _ _ z => by cases z) (fun _ z => by cases z) (g5.stays fD4 kD) DR
                · have gg5 := gg.trans g5
                  exact ⟨gg5.le, fun b o h => by rw [upd_ne (ne_of_none h hD)]; exact gg5.kept b o h, gg5.new⟩
              · rw [if_neg (by decide)]
                exact ⟨F4, r3, acc, accD, l', G4, gg, kD, fD4, rs4, by omega, hm', by rw [← hL, hl']⟩
          · left
            have hie : ds.length = i := by omega
            refine ⟨w2 hie, ?_⟩
            rw [List.drop_eq_nil_of_le (by omega)] at hm
            cases hm
            rw [List.append_nil] at hL
            subst hL
            exact p (.ref D) F2 H2 G2 (g1.trans g2) (.inr (.inl ⟨D, acc, accD, rfl, rfl, hacc, by omega, DR, rs, fD, fun _ => g1.kept.gone hD⟩))
theorem rd_comp (hk : 0 < k) {own : List (Str × Nat)} {tg : Tg} {it elt : E} {ifs : Option E} (nb : noB elt) (hit : Rd W R Ex k c it)
    (hifs : ∀ sc' e, ifs = some e → Rd W R NoX k (blkSC c sc') e) (helt : ∀ sc', Rd W R NoX k (blkSC c sc') elt) : Rd W R Ex k c (.comp own tg it ifs elt) :=
  .plain (fun _ => rfl) rfl (fun x h => (comp_val hk nb hit hifs helt x h).1) fun x h => by
    obtain ⟨_, t, h1, _, h2⟩ := comp_val hk nb hit hifs helt x h
    exact ⟨t, h1, h2⟩
end
end DI
set_option Elab.async false
set_option linter.all false
set_option maxRecDepth 100000
/-! Sr: built-in functions and methods; every expression has a reading that is met. -/
namespace DI
open PySem PySem.Spec PyProof.Rows
open L2 hiding ixN
section
variable {W : Wd} {R : Addr} {Ex : XK} {b : Bool} {k : Nat} {c : SC} {q : Kd} {F H F' H' F1 H1 H0 : Hp} {v : V} {d : D} {X : Cx} {e : E}
/-- the value of a built-in function's name -/
def biV : Bi → Value
  | .len => .builtin "len" | .list => .type "list" | .tuple => .type "tuple" | .all => .builtin "all" | .any => .builtin "any" | .sum => .builtin "sum" | .max2 => .builtin "max" | .min2 => .builtin "min"
  | .int => .type "int" | .str => .type "str" | .sorted => .builtin "sorted" | .dict => .type "dict" | .max1 => .builtin "max" | .min1 => .builtin "min" | _ => .none
/-! ### sorted -/
theorem each_of : ∀ {xs : List V} {its : List Value} {ds : List D}, Paired RelV xs its → Reps W R F xs ds → PySem.W.EachIs (fun v (b : V × D) => RelV b.1 v ∧ Rep W R F b.1 b.2) its (xs.zip ds)
  | _, _, _, .nil, .nil => .nil
  | _, _, _, .cons r t, .cons a b => .cons ⟨r, a⟩ (each_of t b)
theorem of_each : ∀ {its : List Value} {bs : List (V × D)}, PySem.W.EachIs (fun v (b : V × D) => RelV b.1 v ∧ Rep W R F b.1 b.2) its bs → Paired RelV (bs.map (·.1)) its ∧ Reps W R F (bs.map (·.1)) (bs.map (·.2))
  | _, _, .nil => ⟨.nil, .nil⟩
  | _, _, .cons ⟨a, b⟩ t => ⟨.cons a (of_each t).1, .cons b (of_each t).2⟩
theorem each_reads (hK : X.K = W.K) {pins : List (Addr × Obj)} {σ : L2.St} {s : Shared} (I : Inv X pins σ H s) (le : Le F H) : ∀ {xs : List V} {its : List Value} {ds : List D}, pureL 20 ds = true → Paired RelV xs its → Reps W R F xs ds → PySem.W.EachIs (fun v (b : V × D) => ∃ as, Reads s.heap v (toPy b.2) as) its (xs.zip ds)
  | _, _, [], _, .nil, .nil => .nil
  | _, _, d :: ds, hp, .cons r t, .cons a b => by
    obtain ⟨h1, h2⟩ := ba (show (pureD 20 d && pureL 20 ds) = true by simpa only [pureL] using hp)
    obtain ⟨a1, _, _⟩ := a.dp le 20 h1
    rw [← hK] at a1
    exact .cons (Dp.reads I _ _ _ a1 r) (each_reads hK I le h2 t b)
theorem pureL_mem {n : Nat} : ∀ {ds : List D}, pureL n ds = true → ∀ d ∈ ds, pureD n d = true
  | _ :: ds, h, d, hd => by
    obtain ⟨h1, h2⟩ := ba (show (pureD n _ && pureL n ds) = true by simpa only [pureL] using h)
    rcases List.mem_cons.mp hd with e | e
    · rw [e]; exact h1
    · exact pureL_mem h2 d e
mutual
theorem depth_of : ∀ (n : Nat) (d : D), pureD n d = true → (toPy d).depth ≤ n
  | n, .non, _ => Nat.zero_le _
  | n, .bl _, _ => Nat.zero_le _
  | n, .int _, _ => Nat.zero_le _
  | n, .str _, _ => Nat.zero_le _
  | n + 1, .tup ds, h => by simpa only [toPy, PyData.depth] using Nat.succ_le_succ (depths_of n ds (by simpa only [pureD] using h))
  | n + 1, .lst ds, h => by simpa only [toPy, PyData.depth] using Nat.succ_le_succ (depths_of n ds (by simpa only [pureD] using h))
  | 0, .tup ds, h => by cases (show false = true by simpa only [pureD] using h)
  | 0, .lst ds, h => by cases (show false = true by simpa only [pureD] using h)
  | n, .dic _, h => by cases n <;> cases (show false = true by simpa only [pureD] using h)
  | n, .obj _ _, h => by cases n <;> cases (show false = true by simpa only [pureD] using h)
  | n, .fnv _ _, h => by cases n <;> cases (show false = true by simpa only [pureD] using h)
  | n, .row, h => by cases n <;> cases (show false = true by simpa only [pureD] using h)
theorem depths_of : ∀ (n : Nat) (ds : List D), pureL n ds = true → PyData.depthAll (toPys ds) ≤ n
  | n, [], _ => Nat.zero_le _
  | n, d :: ds, h => by
    obtain ⟨h1, h2⟩ := ba (show (pureD n d && pureL n ds) = true by simpa only [pureL] using h)
    simpa only [toPys, PyData.depthAll] using Nat.max_le.mpr ⟨depth_of n d h1, depths_of n ds h2⟩
end
theorem bi_sorted (hK : X.K = W.K) (hu : X.A.units + 64 < cLine) : CallR X (.builtin "sorted") (rDn W R Ex .n (biD .sorted)) := by
  intro pins s σ H vs us Q I r ⟨F, ρ, ds, G, ps, h0⟩
  obtain ⟨d, e, h⟩ := h0.lift_some; clear h0
  match ds, e with
  | [.lst ds], e =>
    have e : (if sortB ds then some (D.lst (sortD ds)) else none) = some d := e
    split at e
    · rename_i hb
      cases e
      obtain ⟨v, rfl, p⟩ := ps.one
      obtain ⟨a, xs, rfl, hs, l, rs⟩ := (BB.of p).lst G.le
      obtain ⟨its, rv, hl, hz⟩ := I.list (.inl (.inl hs))
      obtain ⟨u, rfl, ru⟩ := r.one
      cases ru
      obtain ⟨hb, b4⟩ := ba hb
      obtain ⟨hb, b3⟩ := ba hb
      obtain ⟨b1, b2⟩ := ba hb
      have b3 : ∀ x ∈ ds, ∀ y ∈ ds, PySem.W.alike (toPy x) (toPy y) = true := fun x hx y hy => List.all_eq_true.mp (List.all_eq_true.mp b3 x hx) y hy
      have hsnd : (xs.zip ds).map (·.2) = ds := List.map_snd_zip (by rw [rs.length]; exact Nat.le_refl _)
      have hfst : (xs.zip ds).map (·.1) = xs := List.map_fst_zip (by rw [rs.length]; exact Nat.le_refl _)
      have inz : ∀ b ∈ xs.zip ds, b.2 ∈ ds := fun b hb => by rw [← hsnd]; exact List.mem_map.mpr ⟨b, hb, rfl⟩
      have hm : (xs.zip ds).map (fun b => toPy b.2) = ds.map toPy := by rw [show (fun b : V × D => toPy b.2) = toPy ∘ (fun b : V × D => b.2) from rfl, ← List.map_map, hsnd]
      refine PySem.W.sorted_data (enc := fun b : V × D => toPy b.2) (hl.isList) (each_of rv rs) (each_reads hK I G.le b2 rv rs) ?_ ?_ ?_ ?_ fun out h1 h2 => ?_
      · rw [hm]
        intro x hx y hy
        obtain ⟨dx, q1, rfl⟩ := List.mem_map.mp hx
        obtain ⟨dy, q2, rfl⟩ := List.mem_map.mp hy
        exact b3 dx q1 dy q2
      · rw [hm]
        rcases Bool.or_eq_true _ _ ▸ b4 with q | q
        · refine .inl fun x hx => ?_
          obtain ⟨dx, q1, rfl⟩ := List.mem_map.mp hx
          have := List.all_eq_true.mp q dx q1
          cases dx <;> try (exact (Bool.false_ne_true this).elim)
          rename_i es
          cases es with
          | nil => exact (Bool.false_ne_true this).elim
          | cons z zs => exact ⟨toPy z, toPys zs, rfl⟩
        · refine .inr fun x hx => ?_
          obtain ⟨dx, q1, rfl⟩ := List.mem_map.mp hx
          have := List.all_eq_true.mp q dx q1
          cases dx <;> first | exact (Bool.false_ne_true this).elim | exact ⟨by simp [toPy], fun xs => by simp [toPy]⟩
      · rw [List.length_zip, rs.length, Nat.min_self]
        exact of_decide_eq_true b1
      · intro b hb
        have := depth_of 20 b.2 (pureL_mem b2 _ (inz b hb))
        omega
      · obtain ⟨rv2, rs2⟩ := of_each h2
        have hsort : ((xs.zip ds).mergeSort (PySem.W.dataLe false fun b : V × D => toPy b.2)).map (·.2) = sortD ds := by
          unfold sortD
          rw [List.map_mergeSort (s := fun a b => !ltP b a), hsnd]
          intro a _ b _
          rw [PySem.W.dataLe_eq]
          rfl
        rw [hsort] at rs2
        obtain ⟨ep, he⟩ := PyProof.Rows.sortedAll_at s.heap its out.toArray
        have hlen : (((xs.zip ds).mergeSort (PySem.W.dataLe false fun b : V × D => toPy b.2)).map (·.1)).length ≤ sizeLine := by
          rw [List.length_map, List.length_mergeSort, List.length_zip, rs.length, Nat.min_self]
          exact of_decide_eq_true b1
        exact ⟨.ref (s.heap.objs.size + 1), upd H (s.heap.objs.size + 1) (.lst (((xs.zip ds).mergeSort (PySem.W.dataLe false fun b : V × D => toPy b.2)).map (·.1))), I.laid (t' := s.toks) (fun _ _ => PyProof.Rows.sortedAll_old) (Nat.le_succ _) ⟨hlen, out, ep, rv2, he⟩, rfl, h.lst G rs2 hlen (I.hok.fresh (Nat.le_succ _))⟩
    · cases e
theorem merge_rep : ∀ {more acc : List (Key × V)} {md ad : List (D × D)}, RepKV W R F more md → RepKV W R F acc ad → RepKV W R F (mergeK acc more) (md.foldl (fun acc p => putD p.1 p.2 acc) ad)
  | _, _, _, _, .nil, h => h
  | _, acc, _, ad, .cons (k := a) (v := v) (r := more) (d := d) (ds := md) hk rv r, h => by
    show RepKV W R F (mergeK (putK acc a v) more) (md.foldl (fun acc p => putD p.1 p.2 acc) (putD (keyD a) d ad))
    exact merge_rep r (repKV_put h hk rv)
theorem pairsV : ∀ {xs : List V} {ds : List D} {kds : List (D × D)}, Reps W R F xs ds → dictP ds = some kds → ∃ (ps : List Addr) (kvs : List (Key × V)), xs = ps.map V.ref ∧ Paired (fun p kv => SqT W.K F p [kV kv.1, kv.2]) ps kvs ∧ kvs.length = kds.length ∧ RepKV W R F kvs kds
  | _, [], _, .nil, h => by cases h; exact ⟨[], [], rfl, .nil, rfl, .nil⟩
  | _, d :: ds, kds, .cons a r, h => by
    cases d <;> try (cases h)
    rename_i es
    match es, h, a with
    | [k, v], h, a =>
      have h : (if isKey k then (dictP ds).map ((k, v) :: ·) else none) = some kds := h
      by_cases hk : isKey k = true
      · rw [if_pos hk] at h
        obtain ⟨l, e1, e2⟩ := Option.map_eq_some_iff.mp h
        subst e2
        obtain ⟨ps, kvs, h1, h2, h3, h4⟩ := pairsV r e1
        cases a with
        | tup ht _ rt =>
          cases rt with
          | cons rk rt =>
            cases rt with
            | cons rv rt =>
              cases rt
              obtain ⟨ky, rfl, rfl, hk2⟩ := DI.key_of hk rk
              exact ⟨_ :: ps, (ky, _) :: kvs, by rw [h1]; rfl, .cons ht h2, by rw [List.length_cons, List.length_cons, h3], .cons hk2 rv h4⟩
      · rw [if_neg hk] at h; cases h
theorem Paired.imp2 {α β : Type} {f g : α → β → Prop} (h : ∀ a b, f a b → g a b) : ∀ {xs : List α} {ys : List β}, Paired f xs ys → Paired g xs ys
  | _, _, .nil => .nil
  | _, _, .cons a t => .cons (h _ _ a) (Paired.imp2 h t)
theorem bi_dict (hK : X.K = W.K) (hc : X.calm = true) : CallR X (.type "dict") (rDn W R Ex .n (biD .dict)) := by
  intro pins s σ H vs us Q I r ⟨F, ρ, ds, G, ps, h0⟩
  obtain ⟨d, e, h⟩ := h0.lift_some; clear h0
  match ds, e with
  | [.lst ds], e =>
    obtain ⟨kds, e1, e2⟩ := Option.map_eq_some_iff.mp (show (dictP ds).map (fun ps => D.dic (ps.foldl (fun acc p => putD p.1 p.2 acc) [])) = some d from e)
    subst e2
    obtain ⟨v, rfl, p⟩ := ps.one
    obtain ⟨a, xs, rfl, hs, l, rs⟩ := (BB.of p).lst G.le
    obtain ⟨as, kvs, rfl, hp, hl, rk⟩ := pairsV rs e1
    refine call_dictP hc pins s σ H _ us Q I r ⟨a, as, kvs, rfl, .inl (.inl hs), Paired.imp2 (fun x y q => by rw [hK]; exact G.le.sqT q) hp, fun q hq => ?_⟩
    refine h (.ref q) F _ (G.new hq) ⟨Le.refl _, .new hq, fun b q1 q2 => absurd q1 q2⟩ (.inr (.inr ⟨q, mergeK [] kvs, _, rfl, rfl, upd_same, ?_, G.neR hq, merge_rep rk .nil, G.fNone hq, fun _ => hq⟩))
    have h1 := length_mergeK kvs []
    have h2 : as.length = kvs.length := hp.length
    rw [List.length_map] at l
    simp at h1
    omega
theorem max_bound {m : Int} {ns : List Int} (h1 : m ∈ ns) (h2 : ∀ n ∈ ns, n ≤ m) : ns ≠ [] ∧ m = ns.foldl max (ns.headD 0) := by
  have key : ∀ (l : List Int) (a : Int), (∀ x ∈ l, x ≤ l.foldl max a) ∧ a ≤ l.foldl max a ∧ (l.foldl max a = a ∨ l.foldl max a ∈ l) := by
    intro l
    induction l with
    | nil => intro a; exact ⟨(fun x hx => by cases hx), Int.le_refl _, .inl rfl⟩
    | cons b l ih =>
      intro a
      obtain ⟨i1, i2, i3⟩ := ih (max a b)
      rw [List.foldl_cons]
      refine ⟨fun x hx => ?_, by omega, ?_⟩
      · rcases List.mem_cons.mp hx with rfl | hx
        · omega
        · exact i1 x hx
      · rcases i3 with i3 | i3
        · rw [i3]
          rcases Int.le_total a b with q | q
          · right; rw [Int.max_eq_right q]; exact List.mem_cons_self
          · left; exact Int.max_eq_left q
        · exact .inr (List.mem_cons_of_mem _ i3)
  refine ⟨(fun z => by rw [z] at h1; cases h1), ?_⟩
  obtain ⟨k1, k2, k3⟩ := key ns (ns.headD 0)
  have a1 := k1 m h1
  rcases k3 with k3 | k3
  · cases ns with
    | nil => cases h1
    | cons b l =>
      have := h2 b (List.mem_cons_self ..)
      have k3 : (b :: l).foldl max b = b := k3
      show m = (b :: l).foldl max b
      have a1 : m ≤ (b :: l).foldl max b := a1
      omega
  · have := h2 _ k3
    omega
theorem min_bound {m : Int} {ns : List Int} (h1 : m ∈ ns) (h2 : ∀ n ∈ ns, m ≤ n) : ns ≠ [] ∧ m = ns.foldl min (ns.headD 0) := by
  have key : ∀ (l : List Int) (a : Int), (∀ x ∈ l, l.foldl min a ≤ x) ∧ l.foldl min a ≤ a ∧ (l.foldl min a = a ∨ l.foldl min a ∈ l) := by
    intro l
    induction l with
    | nil => intro a; exact ⟨(fun x hx => by cases hx), Int.le_refl _, .inl rfl⟩
    | cons b l ih =>
      intro a
      obtain ⟨i1, i2, i3⟩ := ih (min a b)
      rw [List.foldl_cons]
      refine ⟨fun x hx => ?_, by omega, ?_⟩
      · rcases List.mem_cons.mp hx with rfl | hx
        · omega
        · exact i1 x hx
      · rcases i3 with i3 | i3
        · rw [i3]
          rcases Int.le_total a b with q | q
          · left; exact Int.min_eq_left q
          · right; rw [Int.min_eq_right q]; exact List.mem_cons_self
        · exact .inr (List.mem_cons_of_mem _ i3)
  refine ⟨(fun z => by rw [z] at h1; cases h1), ?_⟩
  obtain ⟨k1, k2, k3⟩ := key ns (ns.headD 0)
  have a1 := k1 m h1
  rcases k3 with k3 | k3
  · cases ns with
    | nil => cases h1
    | cons b l =>
      have := h2 b (List.mem_cons_self ..)
      have k3 : (b :: l).foldl min b = b := k3
      show m = (b :: l).foldl min b
      have a1 : (b :: l).foldl min b ≤ m := a1
      omega
  · have := h2 _ k3
    omega
theorem bi_max1 (hc : X.calm = true) : CallR X (.builtin "max") (rDn W R Ex .n (biD .max1)) := by
  intro pins s σ H vs us Q I r ⟨F, ρ, ds, G, ps, h0⟩
  obtain ⟨d, e, h⟩ := h0.lift_some; clear h0
  match ds, e with
  | [.lst ds], e =>
    obtain ⟨ns, e1, e2⟩ := Option.bind_eq_some_iff.mp (show (intsD ds).bind (fun ns => if ns = [] then none else some (D.int (ns.foldl max (ns.headD 0)))) = some d from e)
    split at e2
    · cases e2
    · rename_i hn
      cases e2
      obtain ⟨v, rfl, p⟩ := ps.one
      obtain ⟨a, xs, rfl, hs, l, rs⟩ := (BB.of p).lst G.le
      rw [ints_of e1 rs] at hs
      refine cr_max hc pins s σ H _ us Q I r ⟨a, ns, rfl, .of hs, List.length_pos_iff.mpr hn, fun m h1 h2 => ?_⟩
      have : m = ns.foldl max (ns.headD 0) := (max_bound h1 h2).2
      rw [this]
      exact h.flat G (.int _) rfl
theorem bi_min1 (hc : X.calm = true) : CallR X (.builtin "min") (rDn W R Ex .n (biD .min1)) := by
  intro pins s σ H vs us Q I r ⟨F, ρ, ds, G, ps, h0⟩
  obtain ⟨d, e, h⟩ := h0.lift_some; clear h0
  match ds, e with
  | [.lst ds], e =>
    obtain ⟨ns, e1, e2⟩ := Option.bind_eq_some_iff.mp (show (intsD ds).bind (fun ns => if ns = [] then none else some (D.int (ns.foldl min (ns.headD 0)))) = some d from e)
    split at e2
    · cases e2
    · rename_i hn
      cases e2
      obtain ⟨v, rfl, p⟩ := ps.one
      obtain ⟨a, xs, rfl, hs, l, rs⟩ := (BB.of p).lst G.le
      rw [ints_of e1 rs] at hs
      refine cr_min hc pins s σ H _ us Q I r ⟨a, ns, rfl, .of hs, List.length_pos_iff.mpr hn, fun m h1 h2 => ?_⟩
      have : m = ns.foldl min (ns.headD 0) := (min_bound h1 h2).2
      rw [this]
      exact h.flat G (.int _) rfl
theorem bi_call (hk : 0 < k) (hX : XOk W c k Ex X) {b : Bi} (hs : biS b = true) (hb : bi2 b = none) : CallR X (biV b) (rDn W R Ex .n (biD b)) := by
  cases b <;> first | exact (Bool.false_ne_true hs).elim | (cases hb; done) | skip
  · exact bi_len hX.K
  · exact bi_list hX.K
  · exact bi_tuple hX.K
  · exact bi_all (hX.calm hk)
  · exact bi_any (hX.calm hk)
  · exact bi_sum (hX.calm hk)
  · exact bi_max2 (hX.calm hk)
  · exact bi_min2 (hX.calm hk)
  · exact bi_int
  · exact bi_str
  · exact bi_sorted hX.K hX.un
  · exact bi_dict hX.K (hX.calm hk)
  · exact bi_max1 (hX.calm hk)
  · exact bi_min1 (hX.calm hk)
theorem bi_boot {b : Bi} (hs : biS b = true) (hb : bi2 b = none) : bootBuiltins (biN b) = some (biV b) ∧ biN b ∈ bnames := by
  cases b <;> first | exact (Bool.false_ne_true hs).elim | (cases hb; done) | exact ⟨by with_unfolding_all rfl, by decide⟩
theorem rd_bi (wok : WOk W) (hk : 0 < k) {b : Bi} {es : E} (hs : biS b = true) (hb : bi2 b = none) (h : Rd W R Ex k c es) : Rd W R Ex k c (.bi b es) := by
  have key : ∀ x, chk (.bi b es) c (.e x) = true → ∃ p a as pos, x = .Call (.Name (biN b) p) (a :: as) [] pos ∧ glB c (biN b) = true ∧ chk es c (.es (a :: as)) = true := by
    intro x h
    cases x <;> try (exact (Bool.false_ne_true h).elim)
    rename_i f args kws pos
    cases f <;> try (exact (Bool.false_ne_true h).elim)
    rename_i y p
    match args, kws, h with
    | a :: as, [], h =>
      obtain ⟨h1, h2⟩ := ba (show (decide (biN b = y) && (glB c y && (match bi2 b with
        | none => chk es c (.es (a :: as))
        | some z => as.isEmpty && (glB c z && (match inArg z a with
          | some (x, xs) => decide (xs.length = biA b) && chk es c (.es (x :: xs))
          | none => false))))) = true from h)
      rw [hb] at h2
      have : biN b = y := of_decide_eq_true h1
      subst this
      exact ⟨p, a, as, pos, rfl, ba h2⟩
    | [], _, h => exact (Bool.false_ne_true h).elim
    | _ :: _, _ :: _, h => exact (Bool.false_ne_true h).elim
  have nx : ∀ xs, chk (.bi b es) c (.es xs) = false := fun xs => rfl
  refine .plain nx rfl (fun x h => by obtain ⟨p, a, as, pos, rfl, _⟩ := key x h; rfl) fun x hc => ?_
  obtain ⟨p, a, as, pos, rfl, h1, h2⟩ := key x hc
  obtain ⟨t, pa, sa, _⟩ := h.arg _ h2
  have hst := chk_star h2
  obtain ⟨hs1, hs2⟩ := ba (show (notStar a && as.all notStar) = true from hst)
  obtain ⟨hb1, hb2⟩ := bi_boot hs hb
  refine ⟨tCB (rDn W R Ex .n (biD b)) t, fun X hX => ?_, ?_⟩
  · obtain ⟨g1, g2⟩ := glB_of h1 hX
    have hcall := bi_call (R := R) hk hX hs hb
    have hm : X.mg (biN b) = none := by rw [hX.mg]; exact wok.free _ hb2
    cases b <;> first | exact (Bool.false_ne_true hs).elim | exact pe_callB hcall g1 hm hb1 (pa X hX) (ne_name g2) (not_debug g2).1 (starEach_of hs1) (back_of hs2) | exact pe_callTy hcall g1 hm hb1 (pa X hX) (ne_name g2) (not_debug g2).1 (starEach_of hs1) (back_of hs2) | (cases hb; done)
  · have : kd (.bi b es) = .n := by cases b <;> rfl
    rw [this]
    exact satA_bind sa fun F H F1 H1 r Q vs ds G g1 ps p => ⟨F1, r, ds, G, ps.bb, p⟩
/-! ### {k: v, ..} -/
theorem okP_all : ∀ {ks : List (Option Expr)} {vs : List Expr}, okP ks vs = true → ks.all (·.isSome) = true ∧ ks.length = vs.length
  | [], [], _ => ⟨rfl, rfl⟩
  | some k :: ks, v :: vs, h => by
    obtain ⟨h1, h2⟩ := okP_all (ks := ks) (vs := vs) h
    exact ⟨by rw [List.all_cons, h1]; rfl, by rw [List.length_cons, List.length_cons, h2]⟩
  | [], _ :: _, h => (Bool.false_ne_true h).elim
  | none :: _, _, h => by (cases ‹List Expr› <;> exact (Bool.false_ne_true h).elim)
  | some _ :: _, [], h => (Bool.false_ne_true h).elim
theorem pairs_of : ∀ {ps : List (V × V)} {ds : List D} {kds : List (D × D)}, PairsR W R F ps ds → pairsD ds = some kds → ∃ kvs : List (Key × V), ps = kvs.map (fun kv => (kV kv.1, kv.2)) ∧ kvs.length = kds.length ∧ RepKV W R F kvs kds
  | _, _, _, .nil, h => by cases h; exact ⟨[], rfl, rfl, .nil⟩
  | _, _, _, .cons (x := x) (y := y) (ps := ps) (a := a) (b := b) (ds := ds) ra rb rp, h => by
    have h : (if isKey a then (pairsD ds).map ((a, b) :: ·) else none) = some _ := h
    by_cases hk : isKey a = true
    · rw [if_pos hk] at h
      obtain ⟨l, e1, e2⟩ := Option.map_eq_some_iff.mp h
      subst e2
      obtain ⟨kvs, h1, h2, h3⟩ := pairs_of rp e1
      obtain ⟨k, rfl, rfl, hk2⟩ := DI.key_of hk ra
      exact ⟨(k, y) :: kvs, by rw [List.map_cons, h1], by rw [List.length_cons, List.length_cons, h2], .cons hk2 rb h3⟩
    · rw [if_neg hk] at h; cases h
theorem rd_dsp {es : E} (nb : noBs es) (h : Rd W R Ex k c es) : Rd W R Ex k c (.dsp es) := by
  refine .plain (fun _ => rfl) rfl (fun x h => by cases x <;> first | rfl | exact (Bool.false_ne_true h).elim) fun x hx => ?_
  cases x <;> try (exact (Bool.false_ne_true hx).elim)
  rename_i ks vs pos
  obtain ⟨h1, h2⟩ := ba (show (okP ks vs && (decide (0 < ks.length ∧ ks.length ≤ 15) && chk es c (.es (dfl ks vs)))) = true from hx)
  obtain ⟨h2, h3⟩ := ba h2
  have h2 : 0 < ks.length ∧ ks.length ≤ 15 := of_decide_eq_true h2
  obtain ⟨trs, pt, st⟩ := h.prs ks vs h3 h1
  obtain ⟨a1, a2⟩ := okP_all h1
  refine ⟨tDisp trs, fun X hX => pe_disp (pt X pos hX) a1 a2 (fun z => by rw [z] at h2; exact absurd h2.1 (by decide)) h2.2, fun H0 F H σV σ r Q G S p => fun q hq => ?_⟩
  have p : PostE W R Ex .n F H Q ((ev es σ r).bind fun l r => match l with
    | .tup ds => .lift (dspD ds) r
    | _ => .stuck) := p
  have G1 : Good W R F (upd H q (.dK [])) r := G.new hq
  have g1 : Grow R F H F (upd H q (.dK [])) := ⟨Le.refl _, .new hq, fun b q1 q2 => absurd q1 q2⟩
  have qR : q ≠ R := G.neR hq
  refine st nb H0 F (upd H q (.dK [])) σV σ r _ G1 (S.grow g1) ?_
  cases e : ev es σ r with
  | stuck => rw [e] at p; exact p
  | exc x r' => rw [e] at p; exact fun cls dd F' H' a b c => p cls dd F' H' a (g1.trans b) c
  | ok d r' =>
    rw [e] at p
    cases d with
    | tup ds =>
      intro ps F2 H2 G2 g2 rp
      obtain ⟨d, hd, p2⟩ := PostE.lift_some (show PostE W R Ex .n F H Q (.lift (dspD ds) r') from p)
      obtain ⟨kds, e1, e2⟩ := Option.bind_eq_some_iff.mp (show ((pairsD ds).bind fun ps => if ps.length ≤ 15 then some (D.dic (ps.foldl (fun acc p => putD p.1 p.2 acc) [])) else none) = some d from hd)
      obtain ⟨kvs, f1, f2, f3⟩ := pairs_of rp e1
      by_cases hl : kds.length ≤ 15
      · rw [if_pos hl] at e2
        cases e2
        have k2 : H2 q = some (.dK []) := g2.kept.at_ upd_same qR nt_dK
        have fq : F2 q = none := g2.stays (G.fNone hq) upd_same
        refine ⟨k2, kvs, f1, by omega, ?_⟩
        have G3 : Good W R F2 (upd H2 q (.dK (mergeK [] kvs))) r' := G2.write k2 nt_dK (fun _ _ z => by cases z) (fun _ z => by cases z) fq qR
        refine p2 (.ref q) F2 _ G3 ⟨g2.le, fun b o hb => ?_, fun b q1 q2 => ?_⟩ (.inr (.inr ⟨q, mergeK [] kvs, _, rfl, rfl, upd_same, ?_, qR, merge_rep f3 .nil, fq, fun _ => hq⟩))
        · have hbq : b ≠ q := ne_of_none hb hq
          rw [upd_ne hbq]
          have := g2.kept b o (by rw [upd_ne hbq]; exact hb)
          exact this
        · exact (g1.trans g2).new b q1 q2
        · have := length_mergeK kvs []
          rw [sizeLine_v]
          simp at this
          omega
      · rw [if_neg hl] at e2; cases e2
    | _ => exact p
end
end DI
set_option Elab.async false
set_option linter.all false
set_option maxRecDepth 100000
/-! Sya: list(enumerate(x)), list(zip(x, y)): the tuples that are given out are kept. -/
namespace DI
open PySem PySem.Spec PyProof.Rows
open L2 hiding ixN
section
variable {prog : Program} {w : World} {A : Around} {E : Value → Shared → Prop} {s : Shared} {z TI TO i1 i2 T : Addr} {fp1 fp2 : List Addr} {n1 n2 i : Nat} {P1 P2 : Nat → Value → Prop} {St1 St2 : Nat → Heap → Prop} {f : Bool} {oT : Obj}
theorem zipH_item {Q : Option Value → Shared → Prop} (S : ZipSep2 z TI TO i1 i2 fp1 fp2) (D1 : Draws prog w A.in1 i1 fp1 n1 P1 St1) (D2 : Draws prog w A.in1 i2 fp2 n2 P2 St2)
    (hz : IsZipHeld s.heap z TI TO T f) (hT : s.heap.get? T = some oT) (hTI : IsTupOf2 s.heap TI (.ref i1) (.ref i2)) (st1 : St1 i s.heap) (st2 : St2 i s.heap) (hlt1 : i < n1) (hlt2 : i < n2)
    (hQ : ∀ x1 x2 h' tk, P1 i x1 → P2 i x2 → IsZipHeld h' z TI TO T true → St1 (i + 1) h' → St2 (i + 1) h' → h'.get? s.heap.objs.size = some { cls := .type "tuple", data := .seq #[x1, x2] } →
      (∀ c o, c ≠ z → c ≠ i1 → c ≠ i2 → s.heap.get? c = some o → h'.get? c = some o) → Q (some (.ref s.heap.objs.size)) { s with heap := h', toks := tk }) :
    wpAny (model prog w) A (pyNext (.ref z)) Q E s := by
  have hTy : s.TypeIs (.ref z) "zip" := ⟨_, hz, rfl⟩
  unfold pyNext
  refine wpAny_bind (wpAny_attempt (wpAny_callSpecial?_slot (name := Str.ofString "__next__") hTy F.slot_zip_next
    (wpAny_call_entry F.slot_zip_next hTy F.entry_zip_next ?_ (F.args_zip_next_1 _))))
  obtain ⟨hp, g, d, tk0, os⟩ := s
  show wpAny _ _ (field (.ref z) 2 >>= _) _ _ _
  refine wpAny_bind (wpAny_field hz rfl (x := .bool false) rfl ?_)
  show wpAny _ _ (field (.ref z) 3 >>= _) _ _ _
  refine wpAny_bind (wpAny_field hz rfl (x := .ref TI) rfl ?_)
  refine wpAny_bind (wpAny_seqItems hTI rfl ?_)
  show wpAny _ _ (Builtin.SmallTypes.ownedTupleIsFree (.ref z) >>= _) _ _ _
  refine wpAny_bind (wpAny_tupleHeld_zip hz hT fun h₁ hz₁ hs₁ => ?_)
  replace hs₁ : Heap.SameBut z hp h₁ := hs₁
  simp only [Bool.false_eq_true, if_false]
  refine wpAny_bind ?_
  rw [← Array.forIn_toList]
  simp only [List.forIn_cons, List.forIn_nil]
  refine wpAny_bind (wpAny_bind (wpAny_holding ?_))
  show wpAny _ _ (Builtin.SmallTypes.nextOf (.ref i1) >>= _) _ _ ⟨h₁, g, d, tk0, os⟩
  refine wpAny_bind (D1.item i _ _ _ hlt1 (D1.over st1 hs₁ S.zf1) fun x1 p1 tk1 hx1 sn1 hp1 => wpAny_pure ?_)
  replace hp1 : Heap.SameBut i1 h₁ p1 := hp1
  refine wpAny_pure ?_
  refine wpAny_bind (wpAny_bind (wpAny_holding ?_))
  show wpAny _ _ (Builtin.SmallTypes.nextOf (.ref i2) >>= _) _ _ ⟨p1, g, d, tk1, os⟩
  refine wpAny_bind (D2.item i _ _ _ hlt2 (D2.over (D2.over st2 hs₁ S.zf2) hp1 S.sep1_2) fun x2 p2 tk2 hx2 sn2 hp2 => wpAny_pure ?_)
  replace hp2 : Heap.SameBut i2 p1 p2 := hp2
  refine wpAny_pure (wpAny_pure ?_)
  show wpAny _ _ (newTuple [x1, x2] >>= _) _ _ _
  refine wpAny_bind (wpAny_newTuple ?_)
  have hsz : p2.objs.size = hp.objs.size := by rw [hp2.1, hp1.1, hs₁.1]
  have hz₃ : IsZipHeld p2 z TI TO T true := hp2.extBut _ _ S.zi2 (hp1.extBut _ _ S.zi1 hz₁)
  have hk : ∀ c o, c ≠ z → c ≠ i1 → c ≠ i2 → hp.get? c = some o → p2.get? c = some o := fun c o c1 c2 c3 e => hp2.extBut _ _ c3 (hp1.extBut _ _ c2 (hs₁.extBut _ _ c1 e))
  have hj1 : St1 (i + 1) p2 := D1.over sn1 hp2 S.sep2_1
  refine wpAny_pure ⟨_, rfl, ?_⟩
  refine wpAny_pure ?_
  show Q (some (.ref p2.objs.size)) ⟨p2.push _, g, d, tk2, os⟩
  have hp3 : (p2.push { cls := .type "tuple", data := .seq #[x1, x2] }).get? p2.objs.size = some { cls := .type "tuple", data := .seq #[x1, x2] } := Heap.get?_push_size _ rfl
  rw [hsz] at hp3 ⊢
  exact hQ x1 x2 _ tk2 hx1 hx2 (Heap.get?_push_of_some _ hz₃) (D1.frame _ _ _ hj1 fun b hb o e => Heap.get?_push_of_some _ e) (D2.frame _ _ _ sn2 fun b hb o e => Heap.get?_push_of_some _ e) hp3 fun c o c1 c2 c3 e => Heap.get?_push_of_some _ (hk c o c1 c2 c3 e)
theorem zipH_end {Q : Option Value → Shared → Prop} (S : ZipSep2 z TI TO i1 i2 fp1 fp2) (D1 : Draws prog w A.in1 i1 fp1 n1 P1 St1) (D2 : Draws prog w A.in1 i2 fp2 n2 P2 St2)
    (hz : IsZipHeld s.heap z TI TO T f) (hT : s.heap.get? T = some oT) (hTI : IsTupOf2 s.heap TI (.ref i1) (.ref i2)) (st1 : St1 i s.heap) (st2 : St2 i s.heap) (hle1 : i ≤ n1) (hle2 : i ≤ n2) (hend : i = n1 ∨ i = n2)
    (hQ : ∀ h' tk, (∀ c o, c ≠ z → c ≠ i1 → c ≠ i2 → s.heap.get? c = some o → h'.get? c = some o) → Q none { s with heap := h', toks := tk }) :
    wpAny (model prog w) A (pyNext (.ref z)) Q E s := by
  have hTy : s.TypeIs (.ref z) "zip" := ⟨_, hz, rfl⟩
  unfold pyNext
  refine wpAny_bind (wpAny_attempt (wpAny_callSpecial?_slot (name := Str.ofString "__next__") hTy F.slot_zip_next
    (wpAny_call_entry F.slot_zip_next hTy F.entry_zip_next ?_ (F.args_zip_next_1 _))))
  obtain ⟨hp, g, d, tk0, os⟩ := s
  show wpAny _ _ (field (.ref z) 2 >>= _) _ _ _
  refine wpAny_bind (wpAny_field hz rfl (x := .bool false) rfl ?_)
  show wpAny _ _ (field (.ref z) 3 >>= _) _ _ _
  refine wpAny_bind (wpAny_field hz rfl (x := .ref TI) rfl ?_)
  refine wpAny_bind (wpAny_seqItems hTI rfl ?_)
  show wpAny _ _ (Builtin.SmallTypes.ownedTupleIsFree (.ref z) >>= _) _ _ _
  refine wpAny_bind (wpAny_tupleHeld_zip hz hT fun h₁ hz₁ hs₁ => ?_)
  replace hs₁ : Heap.SameBut z hp h₁ := hs₁
  simp only [Bool.false_eq_true, if_false]
  refine wpAny_bind ?_
  rw [← Array.forIn_toList]
  simp only [List.forIn_cons, List.forIn_nil]
  refine wpAny_bind (wpAny_bind (wpAny_holding ?_))
  show wpAny _ _ (Builtin.SmallTypes.nextOf (.ref i1) >>= _) _ _ ⟨h₁, g, d, tk0, os⟩
  by_cases hlt1 : i < n1
  · refine wpAny_bind (D1.item i _ _ _ hlt1 (D1.over st1 hs₁ S.zf1) fun x1 p1 tk1 hx1 sn1 hp1 => wpAny_pure ?_)
    replace hp1 : Heap.SameBut i1 h₁ p1 := hp1
    refine wpAny_pure ?_
    have hi2 : i = n2 := by omega
    refine wpAny_bind (wpAny_bind (wpAny_holding ?_))
    show wpAny _ _ (Builtin.SmallTypes.nextOf (.ref i2) >>= _) _ _ ⟨p1, g, d, tk1, os⟩
    refine wpAny_bind (D2.done ⟨p1, g, d, tk1, os⟩ _ _ (by rw [← hi2]; exact D2.over (D2.over st2 hs₁ S.zf2) hp1 S.sep1_2) fun q e hq he => ?_)
    replace hq : Heap.ExtBut i2 p1 q := hq
    obtain ⟨o, ho, hc⟩ := he
    refine wpAny_bind (wpAny_isInstance (T := "StopIteration") (b := true) ⟨o, ho, hc⟩ isSubtype_stop ?_)
    exact wpAny_pure (hQ q tk1 fun c o c1 c2 c3 x => hq _ _ c3 (hp1.extBut _ _ c2 (hs₁.extBut _ _ c1 x)))
  · have hi1 : i = n1 := by omega
    refine wpAny_bind (D1.done ⟨h₁, g, d, tk0, os⟩ _ _ (by rw [← hi1]; exact D1.over st1 hs₁ S.zf1) fun q e hq he => ?_)
    replace hq : Heap.ExtBut i1 h₁ q := hq
    obtain ⟨o, ho, hc⟩ := he
    refine wpAny_bind (wpAny_isInstance (T := "StopIteration") (b := true) ⟨o, ho, hc⟩ isSubtype_stop ?_)
    exact wpAny_pure (hQ q tk0 fun c o c1 c2 c3 x => hq _ _ c2 (hs₁.extBut _ _ c1 x))
theorem enumH_item {e it : Addr} {fp : List Addr} {n : Nat} {c : Int} {P : Nat → Value → Prop} {St : Nat → Heap → Prop} {old : Value} {Q : Option Value → Shared → Prop}
    (D : Draws prog w A.in1 it fp n P St) (he : IsEnumHeld s.heap e it c old T f) (hT : s.heap.get? T = some oT) (hTe : T ≠ e) (hTi : T ≠ it) (hst : St i s.heap) (hlt : i < n) (hne : e ≠ it) (hef : e ∉ fp)
    (hQ : ∀ x h' tk, P i x → IsEnumHeld h' e it (c + 1) old T true → St (i + 1) h' →
      h'.get? s.heap.objs.size = some { cls := .type "tuple", data := .seq #[.int c tk, x] } →
      (∀ b o, b ≠ e → b ≠ it → s.heap.get? b = some o → h'.get? b = some o) → Q (some (.ref s.heap.objs.size)) { s with heap := h', toks := tk + 1 }) :
    wpAny (model prog w) A (pyNext (.ref e)) Q E s := by
  have hTy : s.TypeIs (.ref e) "enumerate" := ⟨_, he, rfl⟩
  unfold pyNext
  refine wpAny_bind (wpAny_attempt (wpAny_callSpecial?_slot (name := Str.ofString "__next__") hTy F.slot_enumerate_next
    (wpAny_call_entry F.slot_enumerate_next hTy F.entry_enumerate_next ?_ (F.args_enumerate_next_1 _))))
  obtain ⟨hp, g, d, tk₀, os⟩ := s
  show wpAny _ _ (field (.ref e) 2 >>= _) _ _ _
  refine wpAny_bind (wpAny_field he rfl (x := .ref it) rfl ?_)
  refine wpAny_bind (D.item i _ _ _ hlt hst fun x h₁ tk hPx hit₁ hs₁ => ?_)
  replace hs₁ : Heap.SameBut it hp h₁ := hs₁
  have he₁ : IsEnumHeld h₁ e it c old T f := (hs₁.2 e hne).trans he
  show wpAny _ _ (field (.ref e) 3 >>= _) _ _ ⟨h₁, g, d, tk, os⟩
  refine wpAny_bind (wpAny_field he₁ rfl (x := rawInt c) rfl ?_)
  show wpAny _ _ (field (.ref e) 4 >>= _) _ _ ⟨h₁, g, d, tk, os⟩
  refine wpAny_bind (wpAny_field he₁ rfl (x := .none) rfl ?_)
  show wpAny _ _ (mkInt c >>= _) _ _ ⟨h₁, g, d, tk, os⟩
  refine wpAny_bind (wpAny_mkInt ?_)
  show wpAny _ _ (setField (.ref e) 3 (rawInt (c + 1)) >>= _) _ _ ⟨h₁, g, d, tk + 1, os⟩
  refine wpAny_bind (wpAny_setField_rec he₁ (by simp) fun h₂ he₂ hs₂ => ?_)
  replace hs₂ : Heap.SameBut e h₁ h₂ := hs₂
  replace he₂ : IsEnumHeld h₂ e it (c + 1) old T f := he₂
  show wpAny _ _ (setField (.ref e) 4 .none >>= _) _ _ ⟨h₂, g, d, tk + 1, os⟩
  refine wpAny_bind (wpAny_setField_rec he₂ (by simp) fun h₃ he₃ hs₃ => ?_)
  replace hs₃ : Heap.SameBut e h₂ h₃ := hs₃
  replace he₃ : IsEnumHeld h₃ e it (c + 1) old T f := he₃
  show wpAny _ _ (newTuple [.int c tk, x] >>= _) _ _ ⟨h₃, g, d, tk + 1, os⟩
  refine wpAny_bind (wpAny_newTuple ?_)
  have he₄ : IsEnumHeld (h₃.push { cls := .type "tuple", data := .seq #[.int c tk, x] }) e it (c + 1) old T f := Heap.get?_push_of_some _ he₃
  generalize hh₄ : h₃.push { cls := .type "tuple", data := .seq #[.int c tk, x] } = h₄ at he₄
  have hsz : h₃.objs.size = hp.objs.size := by rw [hs₃.1, hs₂.1, hs₁.1]
  have hel : e < hp.objs.size := Heap.lt_size he
  have ht₄ : h₄.get? hp.objs.size = some { cls := .type "tuple", data := .seq #[.int c tk, x] } := by rw [← hh₄, ← hsz]; exact Heap.get?_push_size _ rfl
  have hk₄ : ∀ b o, b ≠ e → b ≠ it → hp.get? b = some o → h₄.get? b = some o := fun b o hbe hbi hb => by
    rw [← hh₄]; exact Heap.get?_push_of_some _ (hs₃.extBut b o hbe (hs₂.extBut b o hbe (hs₁.extBut b o hbi hb)))
  have hit₄ : St (i + 1) h₄ := D.frame _ _ _ hit₁ fun b hb o y => by
    have hbe : b ≠ e := fun q => hef (q ▸ hb)
    rw [← hh₄]; exact Heap.get?_push_of_some _ (hs₃.extBut b o hbe (hs₂.extBut b o hbe y))
  show wpAny _ _ (Builtin.SmallTypes.ownedTupleIsFree (.ref e) >>= _) _ _ ⟨h₄, g, d, tk + 1, os⟩
  rw [hsz]
  clear hh₄ he₃ hs₃ he₂ hs₂ he₁ hs₁ hit₁ hsz h₃ h₂ h₁
  refine wpAny_bind (wpAny_tupleHeld_enum (s := ⟨h₄, g, d, tk + 1, os⟩) he₄ (hk₄ T oT hTe hTi hT) fun h₅ he₅ hs₅ => ?_)
  replace hs₅ : Heap.SameBut e h₄ h₅ := hs₅
  simp only [Bool.false_eq_true, if_false]
  refine wpAny_pure ⟨_, rfl, wpAny_pure (hQ x h₅ tk hPx he₅ (D.frame _ _ _ hit₄ fun b hb o y => hs₅.extBut b o (fun q => hef (q ▸ hb)) y) (hs₅.extBut _ _ (Nat.ne_of_gt hel) ht₄) fun b o hbe hbi hb => hs₅.extBut b o hbe (hk₄ b o hbe hbi hb))⟩
theorem enumH_end {e it : Addr} {fp : List Addr} {n : Nat} {c : Int} {P : Nat → Value → Prop} {St : Nat → Heap → Prop} {old u : Value} {b : Value} {Q : Option Value → Shared → Prop}
    (D : Draws prog w A.in1 it fp n P St) (he : s.heap.get? e = some { cls := .type "enumerate", dict := none, data := .fields #[u, b, .ref it, rawInt c, .none, old], slots := #[] }) (hst : St n s.heap)
    (hQ : ∀ h', Heap.ExtBut it s.heap h' → Q none { s with heap := h' }) : wpAny (model prog w) A (pyNext (.ref e)) Q E s := by
  have hTy : s.TypeIs (.ref e) "enumerate" := ⟨_, he, rfl⟩
  unfold pyNext
  refine wpAny_bind (wpAny_attempt (wpAny_callSpecial?_slot (name := Str.ofString "__next__") hTy F.slot_enumerate_next
    (wpAny_call_entry F.slot_enumerate_next hTy F.entry_enumerate_next ?_ (F.args_enumerate_next_1 _))))
  show wpAny _ _ (field (.ref e) 2 >>= _) _ _ _
  refine wpAny_bind (wpAny_field he rfl (x := .ref it) rfl ?_)
  refine wpAny_bind (D.done _ _ _ hst fun h' x he' hx' => ?_)
  obtain ⟨o, ho, hc⟩ := hx'
  refine wpAny_bind (wpAny_isInstance (T := "StopIteration") (b := true) ⟨o, ho, hc⟩ isSubtype_stop ?_)
  exact wpAny_pure (hQ _ he')
end
/-- an iterator whose tuples are kept in the list q -/
structure Hld (P : Program) (w : World) (A : Around) (I q : Addr) (wr : List Addr) (n : Nat) (Pt : Nat → List Value → Prop) (St : Nat → Heap → Prop) : Prop where
  frame : ∀ i h h', St i h → (∀ b o, b ≠ q → h.get? b = some o → h'.get? b = some o) → St i h'
  item : ∀ i (s : Shared) (Q : Option Value → Shared → Prop) (E : Value → Shared → Prop), i < n → St i s.heap → q < s.heap.objs.size →
    (∀ its h' tk, Pt i its → St (i + 1) h' → h'.get? s.heap.objs.size = some { cls := .type "tuple", data := .seq its.toArray } → (∀ b o, b ∉ wr → s.heap.get? b = some o → h'.get? b = some o) → Q (some (.ref s.heap.objs.size)) { s with heap := h', toks := tk }) →
    wpAny (model P w) A (pyNext (.ref I)) Q E s
  done : ∀ (s : Shared) (Q : Option Value → Shared → Prop) (E : Value → Shared → Prop), St n s.heap →
    (∀ h' tk, (∀ b o, b ∉ wr → s.heap.get? b = some o → h'.get? b = some o) → Q none { s with heap := h', toks := tk }) → wpAny (model P w) A (pyNext (.ref I)) Q E s
theorem hld_enum {P : Program} {w : World} {A : Around} {e it q : Addr} {fp : List Addr} {n : Nat} {Pv : Nat → Value → Prop} {St : Nat → Heap → Prop} (D : Draws P w A.in1 it fp n Pv St) (hei : e ≠ it) (hef : e ∉ fp) (hqf : q ∉ fp) (hqe : q ≠ e) (hqi : q ≠ it) :
    Hld P w A e q [e, it] n (fun i its => ∃ t x, its = [.int (i : Nat) t, x] ∧ Pv i x) (fun i h => St i h ∧ ((∃ old, IsEnum h e it ((i : Nat) : Int) old) ∨ ∃ old T f oT, IsEnumHeld h e it ((i : Nat) : Int) old T f ∧ h.get? T = some oT ∧ T ≠ e ∧ T ≠ it ∧ T ≠ q)) where
  frame := fun i h h' ⟨st, he⟩ k => by
    refine ⟨D.frame _ _ _ st fun b hb o x => k b o (fun z => hqf (z ▸ hb)) x, ?_⟩
    rcases he with ⟨old, he⟩ | ⟨old, T, f, oT, he, hT, r1, r2, r3⟩
    · exact .inl ⟨old, k _ _ hqe.symm he⟩
    · exact .inr ⟨old, T, f, oT, k _ _ hqe.symm he, k _ _ r3 hT, r1, r2, r3⟩
  item := fun i s Q E hi ⟨st, he⟩ hq h => by
    have ec : ((i + 1 : Nat) : Int) = (i : Int) + 1 := by omega
    obtain ⟨oi, hoi⟩ := D.live _ _ st
    have nit : s.heap.objs.size ≠ it := Nat.ne_of_gt (Heap.lt_size hoi)
    rcases he with ⟨old, he⟩ | ⟨old, T, f, oT, he, hT, r1, r2, r3⟩
    · refine wpAny_pyNext_enum_itemC D he st hi hei hef fun x h' tk hx ho st' hT hsz hk => ?_
      exact h [.int (i : Nat) tk, x] h' _ ⟨tk, x, rfl, hx⟩ ⟨st', .inr ⟨_, s.heap.objs.size, false, _, (by rw [ec]; exact ho), hT, Nat.ne_of_gt (Heap.lt_size he), nit, Nat.ne_of_gt hq⟩⟩ hT
        fun b o hb z => hk b o (fun y => hb (by simp [y])) (fun y => hb (by simp [y])) z
    · refine enumH_item D he hT r1 r2 st hi hei hef fun x h' tk hx ho st' hT' hk => ?_
      exact h [.int (i : Nat) tk, x] h' _ ⟨tk, x, rfl, hx⟩ ⟨st', .inr ⟨old, T, true, oT, (by rw [ec]; exact ho), hk _ _ r1 r2 hT, r1, r2, r3⟩⟩ hT'
        fun b o hb z => hk b o (fun y => hb (by simp [y])) (fun y => hb (by simp [y])) z
  done := fun s Q E ⟨st, he⟩ h => by
    rcases he with ⟨old, he⟩ | ⟨old, T, f, oT, he, hT, r1, r2, r3⟩
    · exact enumH_end D he st fun h' hk => h h' s.toks fun b o hb x => hk b o (fun y => hb (by simp [y])) x
    · exact enumH_end D he st fun h' hk => h h' s.toks fun b o hb x => hk b o (fun y => hb (by simp [y])) x
theorem hld_zip {P : Program} {w : World} {A : Around} {z TI TO i1 i2 q : Addr} {fp1 fp2 : List Addr} {n1 n2 : Nat} {P1 P2 : Nat → Value → Prop} {St1 St2 : Nat → Heap → Prop} (S : ZipSep2 z TI TO i1 i2 fp1 fp2) (D1 : Draws P w A.in1 i1 fp1 n1 P1 St1) (D2 : Draws P w A.in1 i2 fp2 n2 P2 St2)
    (q1 : q ∉ fp1) (q2 : q ∉ fp2) (qz : q ≠ z) (qTI : q ≠ TI) (qTO : q ≠ TO) :
    Hld P w A z q [z, TO, i1, i2] (min n1 n2) (fun i its => ∃ x y, its = [x, y] ∧ P1 i x ∧ P2 i y)
      (fun i h => IsTupOf2 h TI (.ref i1) (.ref i2) ∧ St1 i h ∧ St2 i h ∧ ((IsZip h z TI TO .none ∧ ∃ a b, IsTupOf2 h TO a b) ∨ ∃ T f oT, IsZipHeld h z TI TO T f ∧ h.get? T = some oT ∧ T ≠ z ∧ T ≠ i1 ∧ T ≠ i2 ∧ T ≠ q)) where
  frame := fun i h h' ⟨hTI, st1, st2, hz⟩ k => by
    refine ⟨k _ _ qTI.symm hTI, D1.frame _ _ _ st1 fun b hb o x => k b o (fun z => q1 (z ▸ hb)) x, D2.frame _ _ _ st2 fun b hb o x => k b o (fun z => q2 (z ▸ hb)) x, ?_⟩
    rcases hz with ⟨hz, a, b, hTO⟩ | ⟨T, f, oT, hz, hT, r1, r2, r3, r4⟩
    · exact .inl ⟨k _ _ qz.symm hz, a, b, k _ _ qTO.symm hTO⟩
    · exact .inr ⟨T, f, oT, k _ _ qz.symm hz, k _ _ r4 hT, r1, r2, r3, r4⟩
  item := fun i s Q E hi ⟨hTI, st1, st2, hz⟩ hq h => by
    have hi1 : i < n1 := by omega
    have hi2 : i < n2 := by omega
    obtain ⟨o1, ho1⟩ := D1.live _ _ st1
    obtain ⟨o2, ho2⟩ := D2.live _ _ st2
    have m1 : s.heap.objs.size ≠ i1 := Nat.ne_of_gt (Heap.lt_size ho1)
    have m2 : s.heap.objs.size ≠ i2 := Nat.ne_of_gt (Heap.lt_size ho2)
    rcases hz with ⟨hz, a, b, hTO⟩ | ⟨T, f, oT, hz, hT, r1, r2, r3, r4⟩
    · refine wpAny_pyNext_zipD2_item S D1 D2 hz hTI hTO st1 st2 hi1 hi2 fun x1 x2 h' tk y1 y2 b1 b2 d1 d2 b5 b6 hk => ?_
      exact h [x1, x2] h' tk ⟨x1, x2, rfl, y1, y2⟩ ⟨hk _ _ S.TIz S.TITO S.TIi1 S.TIi2 hTI, d1, d2, .inr ⟨s.heap.objs.size, false, _, b1, b5, Nat.ne_of_gt (Heap.lt_size hz), m1, m2, Nat.ne_of_gt hq⟩⟩ b5
        fun c o hc e => hk c o (fun x => hc (by simp [x])) (fun x => hc (by simp [x])) (fun x => hc (by simp [x])) (fun x => hc (by simp [x])) e
    · refine zipH_item S D1 D2 hz hT hTI st1 st2 hi1 hi2 fun x1 x2 h' tk y1 y2 b1 d1 d2 b5 hk => ?_
      exact h [x1, x2] h' tk ⟨x1, x2, rfl, y1, y2⟩ ⟨hk _ _ S.TIz S.TIi1 S.TIi2 hTI, d1, d2, .inr ⟨T, true, oT, b1, hk _ _ r1 r2 r3 hT, r1, r2, r3, r4⟩⟩ b5
        fun c o hc e => hk c o (fun x => hc (by simp [x])) (fun x => hc (by simp [x])) (fun x => hc (by simp [x])) e
  done := fun s Q E ⟨hTI, st1, st2, hz⟩ h => by
    rcases hz with ⟨hz, a, b, hTO⟩ | ⟨T, f, oT, hz, hT, r1, r2, r3, r4⟩
    · exact wpAny_pyNext_zipD2_end S D1 D2 hz hTI hTO st1 st2 (Nat.min_le_left ..) (Nat.min_le_right ..) (by omega) fun h' tk hk => h h' tk fun c o hc e => hk c o (fun x => hc (by simp [x])) (fun x => hc (by simp [x])) (fun x => hc (by simp [x])) (fun x => hc (by simp [x])) e
    · exact zipH_end S D1 D2 hz hT hTI st1 st2 (Nat.min_le_left ..) (Nat.min_le_right ..) (by omega) fun h' tk hk => h h' tk fun c o hc e => hk c o (fun x => hc (by simp [x])) (fun x => hc (by simp [x])) (fun x => hc (by simp [x])) e
/-! ### list(..) of such an iterator -/
section
variable {X : Cx} {pins : List (Addr × Obj)} {σ : L2.St} {A1 : Around} {I q : Addr} {wr : List Addr} {n : Nat} {Pt : Nat → List Value → Prop} {St : Nat → Heap → Prop}
theorem held_loop {Rs : Result → Shared → Prop} (hd : Hld X.prog X.w A1.in1 I q wr n Pt St) (rows : Nat → List V) (hrow : ∀ i its, i < n → Pt i its → Vals (rows i) its) (hlen : ∀ i, (rows i).length ≤ sizeLine) (hqw : q ∉ wr) (hn : n ≤ sizeLine) (J : Nat → List V → Hp → Prop)
    (step : ∀ i vs H T, i < n → J i vs H → H T = none → T ≠ q → J (i + 1) (vs ++ [.ref T]) (upd H T (.tup (rows i))))
    (done : ∀ vs H s, Inv X pins σ (upd H q (.lst vs)) s → J n vs H → H q = none → Rs (.ok (.ret .none)) s) :
    ∀ (k i : Nat) (vs : List V) (H : Hp) (s : Shared), n - i = k → i ≤ n → vs.length = i → Inv X pins σ (upd H q (.lst vs)) s → H q = none → J i vs H → St i s.heap → (∀ b ∈ wr, FpOk X pins (upd H q (.lst vs)) b ∧ b < s.heap.objs.size) →
      codeAny (model X.prog X.w) A1 (.builtin "list.extend.loop" ⟨[.ref q, .ref I, .none], []⟩) Rs s := by
  intro k
  induction k with
  | zero =>
    intro i vs H s hk hi hv Iv hq hJ st hf
    have hin : i = n := by omega
    subst hin
    refine codeAny_builtin PySem.F.entry_extend_loop ?_
    rw [Around.under_plainId PySem.F.plain_extend_loop _]
    show wpAny _ A1.in1 (pyNext (.ref I) >>= _) _ _ s
    refine wpAny_bind (hd.done s _ _ st fun h' tk hk => ?_)
    exact wpAny_pure (done vs H _ (Iv.turnedL (t' := tk) (ch := wr) hk fun b hb => (hf b hb).1) hJ hq)
  | succ k ih =>
    intro i vs H s hk hi hv Iv hq hJ st hf
    have hlt : i < n := by omega
    refine codeAny_builtin PySem.F.entry_extend_loop ?_
    rw [Around.under_plainId PySem.F.plain_extend_loop _]
    show wpAny _ A1.in1 (pyNext (.ref I) >>= _) _ _ s
    obtain ⟨zz, its0, k0, rv0, hl0, e0⟩ := Iv.lstM upd_same
    have hqs : q < s.heap.objs.size := Heap.lt_size e0
    refine wpAny_bind (hd.item i s _ _ hlt st hqs fun its h' tk hP st' hT hkp => ?_)
    have hTn : upd H q (.lst vs) s.heap.objs.size = none := Iv.hok.fresh (Nat.le_refl _)
    have hTq : s.heap.objs.size ≠ q := Nat.ne_of_gt hqs
    have hTH : H s.heap.objs.size = none := by rw [upd_ne hTq] at hTn; exact hTn
    have hTl : s.heap.objs.size < h'.objs.size := Heap.lt_size hT
    have new : ObjOk X.prog X.w (upd (upd H q (.lst vs)) s.heap.objs.size (.tup (rows i))) h' s.heap.objs.size (.tup (rows i)) :=
      ⟨hlen i, its, hrow i its hlt hP, ⟨_, hT, rfl, _, rfl⟩⟩
    have I1 := Iv.turnedNew (t' := tk) (ch := wr) hkp (fun b hb => (hf b hb).1) (Nat.le_refl _) new
    have hq1 : upd (upd H q (.lst vs)) s.heap.objs.size (.tup (rows i)) q = some (.lst vs) := by rw [upd_ne hTq.symm]; exact upd_same
    show wpAny _ A1.in1 (updateSeq q (·.push (Value.ref s.heap.objs.size)) >>= _) _ _ _
    obtain ⟨z1, its1, k1, rv1, hl1, e1⟩ := I1.lstM hq1
    have rT : RelV (V.ref s.heap.objs.size) (Value.ref s.heap.objs.size) := rfl
    have I2 := I1.lset (f := (·.push (Value.ref s.heap.objs.size))) (its' := its1 ++ [.ref s.heap.objs.size]) (ys := vs ++ [.ref s.heap.objs.size]) (t' := tk) hq1 e1 (by simp) (rv1.append (.cons rT .nil)) (by rw [List.length_append, List.length_singleton]; omega)
    have hcomm : upd (upd (upd H q (.lst vs)) s.heap.objs.size (.tup (rows i))) q (.lst (vs ++ [.ref s.heap.objs.size])) = upd (upd H s.heap.objs.size (.tup (rows i))) q (.lst (vs ++ [.ref s.heap.objs.size])) := by
      funext b
      by_cases h1 : b = q
      · rw [h1, upd_same, upd_same]
      · rw [upd_ne h1, upd_ne h1]
        by_cases h2 : b = s.heap.objs.size
        · rw [h2, upd_same, upd_same]
        · rw [upd_ne h2, upd_ne h2, upd_ne h1]
    rw [hcomm] at I2
    refine wpAny_bind (wpAny_updateSeq e1 rfl (wpAny_pure ⟨plainId_quiet PySem.F.plain_extend_loop _, ?_⟩) (by rw [List.size_toArray, ← hl1]; omega) (by show (its1.toArray.push (Value.ref s.heap.objs.size)).size ≤ sizeLine + 1; rw [Array.size_push, List.size_toArray, ← hl1]; omega))
    refine ih (i + 1) (vs ++ [.ref s.heap.objs.size]) (upd H s.heap.objs.size (.tup (rows i))) _ (by omega) hlt (by rw [List.length_append, hv]; rfl) I2 (by rw [upd_ne hTq.symm]; exact hq) (step i vs H _ hlt hJ hTH hTq)
      (hd.frame _ _ _ st' fun b o hb e => (Heap.get?_update_other _ _ (Ne.symm hb)).trans e) fun b hb => ?_
    obtain ⟨⟨f1, f2⟩, f3⟩ := hf b hb
    have hbq : b ≠ q := fun z => hqw (z ▸ hb)
    have hbT : b ≠ s.heap.objs.size := Nat.ne_of_lt f3
    refine ⟨⟨?_, f2⟩, ?_⟩
    · rw [upd_ne hbq] at f1 ⊢
      rw [upd_ne hbT]; exact f1
    · have : (h'.update q (Obj.mapSeq (·.push (Value.ref s.heap.objs.size)))).get? s.heap.objs.size = some { cls := .type "tuple", data := .seq its.toArray } := (Heap.get?_update_other _ _ hTq.symm).trans hT
      exact Nat.lt_trans f3 (Heap.lt_size this)
/-- list(it) -/
theorem call_list_held {T : String} {E : Value → Shared → Prop} {Q : VK} {H : Hp} {s : Shared} (hl : typeLookup (.type T) "__len__" = pure none) (hn0 : typeLookup (.type T) "__length_hint__" = pure none)
    (h2 : (Value.type T == Value.type "list") = false) (h3 : (Value.type T == Value.type "tuple") = false) (hTy : s.TypeIs (.ref I) T) (hself : ∀ (A : Around) (s' : Shared) (Q : Value → Shared → Prop) (E : Value → Shared → Prop), St 0 s'.heap → Q (.ref I) s' → wpAny (model X.prog X.w) A (pyIter (.ref I)) Q E s')
    (Iv : Inv X pins σ H s) (hd : Hld X.prog X.w X.A.in1.in1 I s.heap.objs.size wr n Pt St) (rows : Nat → List V) (hrow : ∀ i its, i < n → Pt i its → Vals (rows i) its) (hlen : ∀ i, (rows i).length ≤ sizeLine) (hn : n ≤ sizeLine) (J : Nat → List V → Hp → Prop)
    (step : ∀ i vs H T, i < n → J i vs H → H T = none → T ≠ s.heap.objs.size → J (i + 1) (vs ++ [.ref T]) (upd H T (.tup (rows i)))) (j0 : J 0 [] H) (st : St 0 s.heap) (hf : ∀ b ∈ wr, FpOk X pins H b ∧ b < s.heap.objs.size)
    (hQ : ∀ vs H', J n vs H' → H' s.heap.objs.size = none → Q (.ref s.heap.objs.size) (upd H' s.heap.objs.size (.lst vs))) :
    wpAny (model X.prog X.w) X.A (call (.type "list") [.ref I]) (EP X pins σ Q) E s := by
  obtain ⟨oI, hoI, hcI⟩ := hTy
  have hIs : I < s.heap.objs.size := Heap.lt_size hoI
  refine callType_codes (Q₁ := fun obj s₁ => obj = .ref s.heap.objs.size ∧ s₁ = { s with heap := s.heap.push { cls := .type "list", data := .seq #[] } }) PySem.F.called_list (PySem.F.typeCall_list_1 _) PySem.F.entry_list_init
    (code_list_new _ ⟨rfl, rfl⟩) fun obj s₁ h₁ => ?_
  obtain ⟨rfl, rfl⟩ := h₁
  have hS : (s.heap.push { cls := .type "list", data := .seq #[] }).get? s.heap.objs.size = some { cls := .type "list", data := .seq #[] } := Heap.get?_push_size _ rfl
  refine ⟨⟨_, hS, rfl⟩, PySem.F.args_list_init_2 _ _, ?_⟩
  have fr : H s.heap.objs.size = none := Iv.hok.fresh (Nat.le_refl _)
  have I1 : Inv X pins σ (upd H s.heap.objs.size (.lst [])) { s with heap := s.heap.push { cls := .type "list", data := .seq #[] } } := Iv.lnew (its := []) (t' := s.toks) .nil (Nat.zero_le _)
  show wpAny _ _ (do let old ← Builtin.List.listItems (.ref s.heap.objs.size); Builtin.List.listUpdate (.ref s.heap.objs.size) (fun _ => #[]); letGo old.toList.reverse; Builtin.List.listExtendWith (.ref s.heap.objs.size) (.ref I) .none) _ _ _
  refine wpAny_bind ?_
  unfold Builtin.List.listItems
  refine wpAny_bind (wpAny_seqItems hS rfl (wpAny_pure ?_))
  show wpAny _ _ (updateSeq s.heap.objs.size (fun _ => #[]) >>= fun _ => letGo (#[] : Array Value).toList.reverse >>= fun _ => Builtin.List.listExtendWith (.ref s.heap.objs.size) (.ref I) .none) _ _ _
  refine wpAny_bind (wpAny_updateSeq hS rfl ?_)
  have I2 := I1.lset (f := fun _ => #[]) (its := []) (its' := []) (ys := []) (t' := s.toks) upd_same hS rfl .nil (Nat.zero_le _)
  rw [upd_upd] at I2
  refine wpAny_bind (wpAny_letGo ?_)
  have hS2 := Heap.get?_update_self (Obj.mapSeq (fun _ => (#[] : Array Value))) hS rfl
  have oth : ∀ b o, s.heap.get? b = some o → ((s.heap.push { cls := .type "list", data := .seq #[] }).update s.heap.objs.size (Obj.mapSeq (fun _ => (#[] : Array Value)))).get? b = some o := fun b o e =>
    (Heap.get?_update_other _ _ (Nat.ne_of_gt (Heap.lt_size e))).trans (Heap.get?_push_of_some _ e)
  generalize hh2 : (s.heap.push { cls := .type "list", data := .seq #[] }).update s.heap.objs.size (Obj.mapSeq (fun _ => (#[] : Array Value))) = g2 at I2 hS2 oth
  have st2 : St 0 g2 := hd.frame _ _ _ st fun b o _ e => oth b o e
  have hTy2 : Shared.TypeIs { s with heap := g2 } (.ref I) T := ⟨oI, oth _ _ hoI, hcI⟩
  unfold Builtin.List.listExtendWith
  refine wpAny_bind (wpAny_typeOf hTy2 ?_)
  have h1 : Builtin.List.listSameRef (.ref s.heap.objs.size) (.ref I) = false := by simp [Builtin.List.listSameRef, Nat.ne_of_gt hIs]
  simp only [h1, h2, h3, Bool.or_false, Bool.false_eq_true, if_false]
  refine wpAny_bind (hself _ _ _ _ st2 ?_)
  refine wpAny_bind (wpAny_holding ?_)
  unfold Builtin.List.listLengthHint
  refine wpAny_bind (wpAny_specialOf hTy2 hl ?_)
  show wpAny _ _ (specialOf (Value.ref I) (Str.ofString "__length_hint__") >>= _) _ _ _
  refine wpAny_bind (wpAny_specialOf hTy2 hn0 ?_)
  refine wpAny_pure ?_
  show wpAny _ _ (rule "list.extend.makes-room" >>= fun _ => Builtin.List.listTouch (.ref s.heap.objs.size) >>= fun _ =>
    again (.builtin "list.extend.loop" ⟨[.ref s.heap.objs.size, .ref I, .none], []⟩)) _ _ _
  refine wpAny_bind (wpAny_rule ?_)
  refine wpAny_bind ?_
  show wpAny _ _ (updateSeq s.heap.objs.size (·.push .none) >>= fun _ => updateSeq s.heap.objs.size (·.pop)) _ _ _
  refine wpAny_bind (wpAny_updateSeq hS2 rfl ?_)
  have hS3 := Heap.get?_update_self (Obj.mapSeq (·.push Value.none)) hS2 rfl
  refine wpAny_updateSeq hS3 rfl ?_
  have hS4 := Heap.get?_update_self (Obj.mapSeq (·.pop)) hS3 rfl
  have I3 := I2.lset (f := (·.push Value.none)) (its := []) (its' := [Value.none]) (ys := [.non]) (t' := s.toks) upd_same hS2 (by simp) (.cons rfl .nil) (by rw [List.length_singleton, sizeLine_eq]; decide)
  have I4 := I3.lset (f := (·.pop)) (its := [Value.none]) (its' := []) (ys := []) (t' := s.toks) upd_same hS3 (by rfl) .nil (Nat.zero_le _)
  rw [upd_upd, upd_upd] at I4
  have oth4 : ∀ b o, b ≠ s.heap.objs.size → g2.get? b = some o → ((g2.update s.heap.objs.size (Obj.mapSeq (·.push Value.none))).update s.heap.objs.size (Obj.mapSeq (·.pop))).get? b = some o :=
    fun b o hb e => (Heap.get?_update_other _ _ (Ne.symm hb)).trans ((Heap.get?_update_other _ _ (Ne.symm hb)).trans e)
  refine wpAny_pure ⟨plainId_quiet PySem.F.plain_extend_loop _, held_loop (A1 := X.A.in1) (Rs := wants (fun r s₂ => r = .none ∧ EP X pins σ Q (.ref s.heap.objs.size) s₂) E) hd rows hrow hlen (fun z => Nat.lt_irrefl _ (hf _ z).2) hn J step
    (fun vs H' s' Iv' hJ' hq' => ⟨rfl, .ref s.heap.objs.size, _, Iv', rfl, hQ vs H' hJ' hq'⟩) n 0 [] H _ (Nat.sub_zero _) (Nat.zero_le _) rfl I4 fr j0 (hd.frame _ _ _ st2 fun b o hb e => oth4 b o hb e) fun b hb => ?_⟩
  obtain ⟨⟨f1, f2⟩, f3⟩ := hf b hb
  refine ⟨⟨by rw [upd_ne (Nat.ne_of_lt f3)]; exact f1, f2⟩, Nat.lt_trans f3 (Heap.lt_size hS4)⟩
theorem enum_nolen : typeLookup (.type "enumerate") "__len__" = pure none := am_miss_of_fast (by decide +kernel)
theorem enum_nohint : typeLookup (.type "enumerate") "__length_hint__" = pure none := am_miss_of_fast (by decide +kernel)
theorem zip_nolen : typeLookup (.type "zip") "__len__" = pure none := am_miss_of_fast (by decide +kernel)
theorem zip_nohint : typeLookup (.type "zip") "__length_hint__" = pure none := am_miss_of_fast (by decide +kernel)
end
end DI
set_option Elab.async false
set_option linter.all false
set_option maxRecDepth 100000
/-! Syb: set(l) of a list of ints (HandS.SetFor's proof for a tuple, turned to a list). -/
namespace DI
open PySem PySem.Spec PyProof.Rows
open L2 hiding ixN
section
variable {P : Program} {w : World} {A : Around} {E : Value → Shared → Prop} {s : Shared}
set_option maxRecDepth 100000 in
set_option maxHeartbeats 3200000 in
theorem set_ints_list {l : Addr} {items : Array Value} (ns : List Int) {Q : Value → Shared → Prop} (hh : A.handled = none) (hl : s.heap.IsList l items) (hit : IntsAre items.toList ns) (hb : ns.length + 1 < scanBound)
    (h : ∀ (h' : Heap) (tk c : Nat), SetR w h' s.heap.objs.size (fun j => decide (j ∈ ns)) c → c ≤ ns.length → (∀ b o, s.heap.get? b = some o → h'.get? b = some o) → Q (.ref s.heap.objs.size) { s with heap := h', toks := tk }) :
    wpAny (model P w) A (call (.type "set") [.ref l]) Q E s := by
  have hisz : items.size = ns.length := by
    have q := IntsAre.length hit
    rw [Array.length_toList] at q
    exact q
  obtain ⟨c, tl, hmro⟩ := F.called_set.mro
  have hmade := F.called_set.made
  have hsub := F.called_set.sub
  refine wpAny_call (codeAny_of_tree ?_)
  show wpAny _ _ (callAny (.type "set") _) _ _ _
  refine wpAny_pure ⟨Code.quiet_builtin _ (by decide +kernel), codeAny_builtin F.entry_type_call ?_⟩
  rw [Around.under_plain (weight_type_call_type "set" [.ref l] []) rfl]
  have h1 := F.called_set.notType
  have h2 := F.called_set.canCreate
  have hct := F.typeCall_set_1 (.ref l)
  repeat (any_goals (first | assumption | wp_step))

  refine codeAny_mono (code_set_led1 (.ref l) (E := E) (Q₁ := fun obj s₁ => obj = .ref s.heap.objs.size ∧ s₁ = { s with heap := s.heap.push { cls := .type "set", dict := none, data := .set #[] 0 (.fresh 0 0 (!w.params.followText "set-order")) } }) ⟨rfl, rfl⟩) fun r s₁ hr => ?_
  cases r with
  | error e => exact hr
  | ok fl =>
    cases fl with
    | ret obj =>
      obtain ⟨rfl, rfl⟩ := hr
      have hS : (s.heap.push { cls := .type "set", dict := none, data := .set #[] 0 (.fresh 0 0 (!w.params.followText "set-order")) }).get? s.heap.objs.size = some { cls := .type "set", dict := none, data := .set #[] 0 (.fresh 0 0 (!w.params.followText "set-order")) } := Heap.get?_push_size _ rfl
      have hT : Shared.TypeIs { s with heap := s.heap.push { cls := .type "set", dict := none, data := .set #[] 0 (.fresh 0 0 (!w.params.followText "set-order")) } } (.ref s.heap.objs.size) "set" := ⟨_, hS, rfl⟩
      have hli := F.called_set.init.lookup
      have hbi := F.called_set.init.bind (.ref s.heap.objs.size)
      repeat (any_goals (first | assumption | wp_step))

      refine codeAny_mono (codeAny_call_builtin (R := wants (fun r s₂ => r = .none ∧ ∃ h' tk c, s₂ = { s with heap := h', toks := tk } ∧ SetR w h' s.heap.objs.size (fun j => decide (j ∈ ns)) c ∧ c ≤ ns.length ∧
          (∀ b o, s.heap.get? b = some o → h'.get? b = some o)) E) F.called_set.init.plain F.entry_set_init (check_set_init_1 hT ?_)) fun r₂ s₂ hr₂ => ?_
      · obtain ⟨ol, hol, hcl, nl, hdl⟩ := hl
        obtain ⟨ocls, odict, odata, oslots⟩ := ol
        simp only at hcl hdl
        subst hcl; subst hdl
        have hol' : (s.heap.push { cls := .type "set", dict := none, data := .set #[] 0 (.fresh 0 0 (!w.params.followText "set-order")) }).get? l = some { cls := .type "list", dict := odict, data := .seq items nl, slots := oslots } := Heap.get?_push_of_some _ hol
        have hsls := F.sub_list_set
        have hslf := F.sub_list_frozenset
        have hne : (Value.type "list" == Value.type "dict") = false := by decide
        have hl1 : (s.heap.push { cls := .type "set", dict := none, data := .set #[] 0 (.fresh 0 0 (!w.params.followText "set-order")) }).IsList l items := ⟨_, hol', rfl, nl, rfl⟩
        unfold Builtin.«set.__init__» noKeywords Builtin.Frozenset.updateFrom
        generalize hPI : pyIter = PI
        wp_walk
        subst hPI

        refine wpAny_pyIter_list hl1 ?_
        refine wpAny_bind (wpAny_runValue ?_)
        have hlS : l < s.heap.objs.size := Heap.lt_size hol
        have hh3 : A.in1.in1.in1.handled = none := by simp [hh]
        have hz1 : (s.heap.push { cls := .type "set", dict := none, data := .set #[] 0 (.fresh 0 0 (!w.params.followText "set-order")) }).objs.size = s.heap.objs.size + 1 := Heap.size_push ..
        have hneI : l ≠ (s.heap.push { cls := .type "set", dict := none, data := .set #[] 0 (.fresh 0 0 (!w.params.followText "set-order")) }).objs.size := by
          rw [Heap.size_push]; exact Nat.ne_of_lt (Nat.lt_succ_of_lt hlS)
        have hSf : s.heap.objs.size ∉ [(s.heap.push { cls := .type "set", dict := none, data := .set #[] 0 (.fresh 0 0 (!w.params.followText "set-order")) }).objs.size, l] := by
          rw [Heap.size_push]; simp only [List.mem_cons, List.mem_singleton, List.not_mem_nil, or_false, not_or]
          exact ⟨Nat.ne_of_lt (Nat.lt_succ_self _), Nat.ne_of_gt hlS⟩
        have hval : ∀ (i : Nat) (v : Value), items[i]? = some v → ∃ k t, ns[i]? = some k ∧ v = .int k t := fun i v hv => by
          have hi : i < ns.length := by rw [← hisz]; exact (Array.getElem?_eq_some_iff.mp hv).1
          obtain ⟨t, e⟩ := PyProof.Rows.IntsAre.int_at hit i v (by rw [Array.getElem?_toList]; exact hv)
          refine ⟨ns[i], t, List.getElem?_eq_getElem hi, ?_⟩
          rw [e, List.getD_eq_getElem?_getD, List.getElem?_eq_getElem hi] <;> rfl
        refine set_update_ints ((Walks.list hh3 _ l hneI items).toS) s.heap.objs.size
          hSf ns hisz hb hval (items.size - 0) 0 _ (by omega) (Nat.zero_le _)
          ⟨⟨_, Heap.get?_push_size _ rfl, rfl, rfl⟩, (hl1.push _)⟩ ?hS0 ?hR
        case hS0 =>
          have hget : ((s.heap.push { cls := .type "set", dict := none, data := .set #[] 0 (.fresh 0 0 (!w.params.followText "set-order")) }).push { cls := .type "list_iterator", data := .fields #[.ref l, .int 0 0] }).get? s.heap.objs.size
              = some { cls := .type "set", dict := none, data := .set #[] 0 (.fresh 0 0 (!w.params.followText "set-order")) } := Heap.get?_push_of_some _ hS
          exact ⟨0, Nat.le_refl 0, setR_new_at hget⟩
        case hR =>
          intro s' c' hm hc' hS'
          obtain ⟨h', g2, d', tk', os'⟩ := s'
          have eg : g2 = s.gens := hm.gens
          have ed : d' = s.drawn := hm.drawn
          have eo : os' = s.os := hm.os
          subst eg; subst ed; subst eo
          show wpAny _ _ _ _ _ _
          refine wpAny_pure ?_
          show wpAny _ _ (ret Value.none) _ _ _
          rw [hisz] at hc'
          refine wpAny_pure ⟨rfl, h', tk', c', rfl, hS', hc', fun b o e => ?_⟩
          have hb0 : b < s.heap.objs.size := Heap.lt_size e
          have hb1 : b ≠ s.heap.objs.size := Nat.ne_of_lt hb0
          have hb2 : b ≠ (s.heap.push { cls := .type "set", dict := none, data := .set #[] 0 (.fresh 0 0 (!w.params.followText "set-order")) }).objs.size := by
            rw [Heap.size_push]; exact Nat.ne_of_lt (Nat.lt_succ_of_lt hb0)
          exact hm.heap b o (by simp only [List.mem_cons, List.mem_singleton, List.not_mem_nil, or_false, not_or]; exact ⟨hb1, hb2⟩) (Heap.get?_push_of_some _ (Heap.get?_push_of_some _ e))

      · cases r₂ with
        | error e => exact hr₂
        | ok fl₂ =>
          cases fl₂ with
          | ret r =>
            obtain ⟨rfl, h', tk, c', rfl, hS', hc', hk'⟩ := hr₂
            repeat (any_goals (first | assumption | wp_step))
            exact h _ _ _ hS' hc' hk'
          | _ => exact hr₂.elim
    | _ => exact hr.elim
end
end DI
set_option Elab.async false
set_option linter.all false
set_option maxRecDepth 100000
set_option maxHeartbeats 4000000
/-! Sy: len(set(texts)). -/
namespace DI
open PySem PySem.Spec PyProof.Rows
open L2 hiding ixN
section
variable {P : Program} {w : World} {A : Around} {Z : Result → Shared → Prop} {it : Addr} {fp wr : List Addr} {GG : Array GenState → Array GenState → Prop} {n : Nat} {Pv : Nat → Value → Prop} {St' : Nat → Shared → Prop}
abbrev inS (seen : List Str) : Str → Bool := fun k => decide (k ∈ seen)
theorem set_kept {h h' : Heap} {S : Addr} {f : Str → Bool} {m : Nat} (q : h.SetOf (PySem.strKind P w) S f m) (k : ∀ o, h.get? S = some o → h'.get? S = some o) : h'.SetOf (PySem.strKind P w) S f m := by
  obtain ⟨o, es, ep, t, ho, rest⟩ := q
  exact ⟨o, es, ep, t, k o ho, rest⟩
/-- the loop that puts the rest of the texts into the set -/
theorem fill_texts (Wk : WalksS P w A.in1 it fp wr GG n Pv St') (S : Addr) (hSf : S ∉ fp) (xs : List Str) (hsz : xs.length = n) (hval : ∀ i v, Pv i v → ∃ y t, xs[i]? = some y ∧ v = .str y t) :
    ∀ (r : List Str) (i : Nat) (seen : List Str) (m : Nat) (s : Shared), xs.drop i = r → i ≤ n → m + r.length < 4090 → St' i s → s.heap.SetOf (PySem.strKind P w) S (inS seen) m →
      (∀ s' f, Moved (S :: wr) GG s s' → s'.heap.SetOf (PySem.strKind P w) S f (m + dcnt seen r) → Z (.ok (.ret .none)) s') → codeAny (model P w) A (.builtin "set.update.loop" ⟨[.ref S, .ref it], []⟩) Z s := by
  have hSw : S ∉ wr := fun q => hSf (Wk.sub _ q)
  have up : ∀ b ∈ wr, b ∈ S :: wr := fun b q => List.mem_cons_of_mem _ q
  intro r
  induction r with
  | nil =>
    intro i seen m s hd hi _ st hS done
    have hin : i = n := by
      have := congrArg List.length hd
      rw [List.length_drop] at this
      simp at this
      omega
    subst hin
    refine codeAny_builtin PyProof.Rows.F.entry_set_update_loop ?_
    rw [Around.under_plainId PyProof.Rows.F.plain_set_update_loop _]
    show wpAny _ A.in1 (pyNext (.ref it) >>= _) _ _ s
    refine wpAny_bind (Wk.done s _ _ st fun s' mv => ?_)
    show wpAny _ A.in1 (ret Value.none) _ _ s'
    exact wpAny_pure (done s' _ (mv.mono up) (set_kept hS fun o => mv.heap S o hSw))
  | cons y r ih =>
    intro i seen m s hd hi hm st hS done
    have hlt : i < n := by
      rw [← hsz]
      have := congrArg List.length hd
      rw [List.length_drop, List.length_cons] at this
      omega
    have hy : xs[i]? = some y := by
      have : (xs.drop i)[0]? = some y := by rw [hd]; rfl
      rw [List.getElem?_drop] at this
      exact this
    refine codeAny_builtin PyProof.Rows.F.entry_set_update_loop ?_
    rw [Around.under_plainId PyProof.Rows.F.plain_set_update_loop _]
    show wpAny _ A.in1 (pyNext (.ref it) >>= _) _ _ s
    refine wpAny_bind (Wk.item i s _ _ hlt st fun v s' pv st1 mv => ?_)
    obtain ⟨y', t, hy', rfl⟩ := hval i v pv
    obtain rfl : y' = y := Option.some.inj (hy'.symm.trans hy)
    have hS1 := set_kept hS fun o => mv.heap S o hSw
    show wpAny _ A.in1 (holding [Value.str y' t] (setAdd S (.str y' t)) >>= _) _ _ s'
    refine wpAny_bind (wpAny_holding ?_)
    unfold setAdd
    refine wpAny_holding ?_
    refine wpAny_bind ((PySem.strKind P w).pyHash (k := y') (strKind_is _ _ _ _) ?_)
    rw [List.length_cons] at hm
    refine wpAny_setAddHashed_of (knd := PySem.strKind P w) (s := { s' with toks := s'.toks + 1 }) (strKind_is _ _ _ _) rfl hS1 (by unfold scanBound; omega) fun h2 hb hS2 => ?_
    have hS3 : h2.SetOf (PySem.strKind P w) S (inS (y' :: seen)) (m + if y' ∈ seen then 0 else 1) := by
      refine SetOf_congr hS2 (fun k => ?_) ?_
      · show (decide (k ∈ seen) || decide (k = y')) = decide (k ∈ y' :: seen)
        by_cases z1 : k ∈ seen <;> by_cases z2 : k = y' <;> simp [z1, z2]
      · show (if decide (y' ∈ seen) = true then m else m + 1) = _
        by_cases z1 : y' ∈ seen <;> simp [z1]
    refine wpAny_pure ⟨plainId_quiet PyProof.Rows.F.plain_set_update_loop _, ih (i + 1) (y' :: seen) _ _ ?_ hlt ?_ (Wk.frame _ s' _ _ st1 (Nat.le_succ _) fun b hbf o e => ?_) hS3 fun s2 f mv2 hS4 => ?_⟩
    · rw [← List.drop_drop, hd]; rfl
    · by_cases z1 : y' ∈ seen <;> simp only [z1, if_true, if_false] <;> omega
    · rw [hb.2 b (fun z => hSf (by rw [← z]; exact hbf))]; exact e
    · refine done s2 f (Moved.trans Wk.gtrans ((mv.mono up).then_heap (Nat.le_succ _) fun b o hbn e => ?_) mv2) ?_
      · rw [hb.2 b (fun z => hbn (by rw [z]; exact List.mem_cons_self))]; exact e
      · have : m + dcnt seen (y' :: r) = m + (if y' ∈ seen then 0 else 1) + dcnt (y' :: seen) r := by
          show m + ((if y' ∈ seen then 0 else 1) + dcnt (y' :: seen) r) = _
          omega
        rw [this]; exact hS4
end
section
variable {P : Program} {w : World} {A : Around} {E : Value → Shared → Prop} {s : Shared}
/-- the object of a set in the making -/
abbrev newSet (led : Bool) : Obj := { cls := .type "set", dict := none, data := .set #[] 0 (.fresh 0 0 led) }
theorem strs_ix : ∀ {us : List Value} {xs : List Str}, StrsAre us xs → ∀ (i : Nat) (v : Value), us[i]? = some v → ∃ y t, xs[i]? = some y ∧ v = .str y t
  | _, _, .nil, i, v, h => by simp at h
  | _, _, .cons n t hr, 0, v, h => by simp at h; exact ⟨n, t, rfl, h.symm⟩
  | _, _, .cons n t hr, i + 1, v, h => strs_ix hr i v (by simpa using h)
theorem SS_len : ∀ {us : List Value} {xs : List Str}, StrsAre us xs → us.length = xs.length
  | _, _, .nil => rfl
  | _, _, .cons n t hr => by rw [List.length_cons, List.length_cons, SS_len hr]
theorem set_of_list {l : Addr} {items : Array Value} {xs : List Str} {Q : Value → Shared → Prop} (hh : A.handled = none) (hl : s.heap.IsList l items) (hi : StrsAre items.toList xs) (hx : xs.length < 4000)
    (h : ∀ (h' : Heap) (tk : Nat) (f : Str → Bool), h'.SetOf (PySem.strKind P w) s.heap.objs.size f (dcnt [] xs) → (∀ b o, s.heap.get? b = some o → h'.get? b = some o) → Q (.ref s.heap.objs.size) { s with heap := h', toks := tk }) :
    wpAny (model P w) A (call (.type "set") [.ref l]) Q E s := by
  obtain ⟨c0, tl0, mro0⟩ := PySem.F.called_set.mro
  have made0 := PySem.F.called_set.made
  have sub0 := PySem.F.called_set.sub
  refine wpAny_call (codeAny_of_tree ?_)
  show wpAny _ _ (callAny (.type "set") _) _ _ _
  refine wpAny_pure ⟨Code.quiet_builtin _ (by decide +kernel), codeAny_builtin PySem.F.entry_type_call ?_⟩
  rw [Around.under_plain (weight_type_call_type "set" [.ref l] []) rfl]
  have n1 := PySem.F.called_set.notType
  have n2 := PySem.F.called_set.canCreate
  have n3 := PySem.F.typeCall_set_1 (.ref l)
  repeat (any_goals (first | assumption | wp_step))

  refine codeAny_mono (code_set_new_1 (.ref l) (E := E) (Q₁ := fun ob s1 => ∃ led : Bool, ob = .ref s.heap.objs.size ∧ s1 = { s with heap := s.heap.push (newSet led) }) fun led => ⟨led, rfl, rfl⟩) fun r s1 hr => ?_
  cases r with
  | error e => exact hr
  | ok fl =>
    cases fl with
    | ret ob =>
      obtain ⟨led, rfl, rfl⟩ := hr
      have gS : (s.heap.push (newSet led)).get? s.heap.objs.size = some (newSet led) := Heap.get?_push_size _ rfl
      have gT : Shared.TypeIs { s with heap := s.heap.push (newSet led) } (.ref s.heap.objs.size) "set" := ⟨_, gS, rfl⟩
      have l1 := PySem.F.called_set.init.lookup
      have l2 := PySem.F.called_set.init.bind (.ref s.heap.objs.size)
      repeat (any_goals (first | assumption | wp_step))

      refine codeAny_mono (codeAny_call_builtin (R := wants (fun r s2 => r = .none ∧ ∃ h' tk f, s2 = { s with heap := h', toks := tk } ∧ h'.SetOf (PySem.strKind P w) s.heap.objs.size f (dcnt [] xs) ∧
          (∀ b o, s.heap.get? b = some o → h'.get? b = some o)) E) PySem.F.called_set.init.plain PySem.F.entry_set_init (check_set_init_1 gT ?_)) fun r2 s2 hr2 => ?_
      · obtain ⟨ol, hol, hcl, nl, hdl⟩ := hl
        obtain ⟨ocls, odict, odata, oslots⟩ := ol
        simp only at hcl hdl
        subst hcl; subst hdl
        have hol2 : (s.heap.push (newSet led)).get? l = some { cls := .type "list", dict := odict, data := .seq items nl, slots := oslots } := Heap.get?_push_of_some _ hol
        have w1 := PySem.F.sub_list_set
        have w2 := PySem.F.sub_list_frozenset
        have w3 : (Value.type "list" == Value.type "dict") = false := by decide
        have hl1 : (s.heap.push (newSet led)).IsList l items := ⟨_, hol2, rfl, nl, rfl⟩
        unfold Builtin.«set.__init__» noKeywords Builtin.Frozenset.updateFrom
        generalize hPI : pyIter = PI
        wp_walk
        subst hPI

        refine wpAny_pyIter_list hl1 ?_
        refine wpAny_bind (wpAny_runValue ?_)
        have ls : l < s.heap.objs.size := Heap.lt_size hol
        have hq : A.in1.in1.in1.handled = none := by simp [hh]
        have ne1 : l ≠ (s.heap.push (newSet led)).objs.size := by
          rw [Heap.size_push]; exact Nat.ne_of_lt (Nat.lt_succ_of_lt ls)
        have ne2 : s.heap.objs.size ∉ [(s.heap.push (newSet led)).objs.size, l] := by
          rw [Heap.size_push]; simp only [List.mem_cons, List.not_mem_nil, or_false, not_or]
          exact ⟨Nat.ne_of_lt (Nat.lt_succ_self _), Nat.ne_of_gt ls⟩
        have sz : xs.length = items.size := by rw [← SS_len hi, Array.length_toList]
        refine fill_texts ((Walks.list hq _ l ne1 items).toS) s.heap.objs.size ne2 xs sz (fun i v hv => strs_ix hi i v (by rw [Array.getElem?_toList]; exact hv)) xs 0 [] 0 _ rfl (Nat.zero_le _) (by omega)
          ⟨⟨_, Heap.get?_push_size _ rfl, rfl, rfl⟩, (hl1.push _)⟩ ?first ?last
        case first =>
          have g2 : ((s.heap.push (newSet led)).push { cls := .type "list_iterator", data := .fields #[.ref l, .int 0 0] }).get? s.heap.objs.size = some (newSet led) := Heap.get?_push_of_some _ gS
          exact PyProof.Rows.SetOf_congr ((PyProof.Rows.setObjOf_fresh (knd := PySem.strKind P w) led).setOf g2 (by unfold scanBound; omega)) (fun k => by simp) rfl
        case last =>
          intro s' f mv hS'
          obtain ⟨h', g', d', tk', os'⟩ := s'
          obtain rfl : g' = s.gens := mv.gens
          obtain rfl : d' = s.drawn := mv.drawn
          obtain rfl : os' = s.os := mv.os
          show wpAny _ _ _ _ _ _
          refine wpAny_pure ?_
          show wpAny _ _ (ret Value.none) _ _ _
          refine wpAny_pure ⟨rfl, h', tk', f, rfl, by rw [Nat.zero_add] at hS'; exact hS', fun b o e => ?_⟩
          have hb : b < s.heap.objs.size := Heap.lt_size e
          have hb2 : b ≠ (s.heap.push (newSet led)).objs.size := by
            rw [Heap.size_push]; exact Nat.ne_of_lt (Nat.lt_succ_of_lt hb)
          exact mv.heap b o (by simp only [List.mem_cons, List.not_mem_nil, or_false, not_or]; exact ⟨Nat.ne_of_lt hb, hb2⟩) (Heap.get?_push_of_some _ (Heap.get?_push_of_some _ e))
      · cases r2 with
        | error e => exact hr2
        | ok fl2 =>
          cases fl2 with
          | ret r =>
            obtain ⟨rfl, h', tk, f, rfl, q1, q2⟩ := hr2
            repeat (any_goals (first | assumption | wp_step))
            exact h _ _ _ q1 q2
          | _ => exact hr2.elim
    | _ => exact hr.elim
theorem set_of_tuple {l : Addr} {items : Array Value} {xs : List Str} {Q : Value → Shared → Prop} (hh : A.handled = none) (hl : s.heap.IsTuple l items) (hi : StrsAre items.toList xs) (hx : xs.length < 4000)
    (h : ∀ (h' : Heap) (tk : Nat) (f : Str → Bool), h'.SetOf (PySem.strKind P w) s.heap.objs.size f (dcnt [] xs) → (∀ b o, s.heap.get? b = some o → h'.get? b = some o) → Q (.ref s.heap.objs.size) { s with heap := h', toks := tk }) :
    wpAny (model P w) A (call (.type "set") [.ref l]) Q E s := by
  obtain ⟨c0, tl0, mro0⟩ := PySem.F.called_set.mro
  have made0 := PySem.F.called_set.made
  have sub0 := PySem.F.called_set.sub
  refine wpAny_call (codeAny_of_tree ?_)
  show wpAny _ _ (callAny (.type "set") _) _ _ _
  refine wpAny_pure ⟨Code.quiet_builtin _ (by decide +kernel), codeAny_builtin PySem.F.entry_type_call ?_⟩
  rw [Around.under_plain (weight_type_call_type "set" [.ref l] []) rfl]
  have n1 := PySem.F.called_set.notType
  have n2 := PySem.F.called_set.canCreate
  have n3 := PySem.F.typeCall_set_1 (.ref l)
  repeat (any_goals (first | assumption | wp_step))

  refine codeAny_mono (code_set_new_1 (.ref l) (E := E) (Q₁ := fun ob s1 => ∃ led : Bool, ob = .ref s.heap.objs.size ∧ s1 = { s with heap := s.heap.push (newSet led) }) fun led => ⟨led, rfl, rfl⟩) fun r s1 hr => ?_
  cases r with
  | error e => exact hr
  | ok fl =>
    cases fl with
    | ret ob =>
      obtain ⟨led, rfl, rfl⟩ := hr
      have gS : (s.heap.push (newSet led)).get? s.heap.objs.size = some (newSet led) := Heap.get?_push_size _ rfl
      have gT : Shared.TypeIs { s with heap := s.heap.push (newSet led) } (.ref s.heap.objs.size) "set" := ⟨_, gS, rfl⟩
      have l1 := PySem.F.called_set.init.lookup
      have l2 := PySem.F.called_set.init.bind (.ref s.heap.objs.size)
      repeat (any_goals (first | assumption | wp_step))

      refine codeAny_mono (codeAny_call_builtin (R := wants (fun r s2 => r = .none ∧ ∃ h' tk f, s2 = { s with heap := h', toks := tk } ∧ h'.SetOf (PySem.strKind P w) s.heap.objs.size f (dcnt [] xs) ∧
          (∀ b o, s.heap.get? b = some o → h'.get? b = some o)) E) PySem.F.called_set.init.plain PySem.F.entry_set_init (check_set_init_1 gT ?_)) fun r2 s2 hr2 => ?_
      · obtain ⟨ol, hol, hcl, nl, hdl⟩ := hl
        obtain ⟨ocls, odict, odata, oslots⟩ := ol
        simp only at hcl hdl
        subst hcl; subst hdl
        have hol2 : (s.heap.push (newSet led)).get? l = some { cls := .type "tuple", dict := odict, data := .seq items nl, slots := oslots } := Heap.get?_push_of_some _ hol
        have w1 := PySem.F.sub_tuple_set
        have w2 := PySem.F.sub_tuple_frozenset
        have w3 : (Value.type "tuple" == Value.type "dict") = false := by decide
        have hl1 : (s.heap.push (newSet led)).IsTuple l items := ⟨_, hol2, rfl, nl, rfl⟩
        unfold Builtin.«set.__init__» noKeywords Builtin.Frozenset.updateFrom
        generalize hPI : pyIter = PI
        wp_walk
        subst hPI

        refine wpAny_pyIter_tuple hl1 ?_
        refine wpAny_bind (wpAny_runValue ?_)
        have ls : l < s.heap.objs.size := Heap.lt_size hol
        have hq : A.in1.in1.in1.handled = none := by simp [hh]
        have ne1 : l ≠ (s.heap.push (newSet led)).objs.size := by
          rw [Heap.size_push]; exact Nat.ne_of_lt (Nat.lt_succ_of_lt ls)
        have ne2 : s.heap.objs.size ∉ [(s.heap.push (newSet led)).objs.size, l] := by
          rw [Heap.size_push]; simp only [List.mem_cons, List.not_mem_nil, or_false, not_or]
          exact ⟨Nat.ne_of_lt (Nat.lt_succ_self _), Nat.ne_of_gt ls⟩
        have sz : xs.length = items.size := by rw [← SS_len hi, Array.length_toList]
        refine fill_texts ((Walks.tuple hq _ l ne1 items).toS) s.heap.objs.size ne2 xs sz (fun i v hv => strs_ix hi i v (by rw [Array.getElem?_toList]; exact hv)) xs 0 [] 0 _ rfl (Nat.zero_le _) (by omega)
          ⟨⟨_, Heap.get?_push_size _ rfl, rfl, rfl⟩, (hl1.push _)⟩ ?first ?last
        case first =>
          have g2 : ((s.heap.push (newSet led)).push { cls := .type "tuple_iterator", data := .fields #[.ref l, .int 0 0] }).get? s.heap.objs.size = some (newSet led) := Heap.get?_push_of_some _ gS
          exact PyProof.Rows.SetOf_congr ((PyProof.Rows.setObjOf_fresh (knd := PySem.strKind P w) led).setOf g2 (by unfold scanBound; omega)) (fun k => by simp) rfl
        case last =>
          intro s' f mv hS'
          obtain ⟨h', g', d', tk', os'⟩ := s'
          obtain rfl : g' = s.gens := mv.gens
          obtain rfl : d' = s.drawn := mv.drawn
          obtain rfl : os' = s.os := mv.os
          show wpAny _ _ _ _ _ _
          refine wpAny_pure ?_
          show wpAny _ _ (ret Value.none) _ _ _
          refine wpAny_pure ⟨rfl, h', tk', f, rfl, by rw [Nat.zero_add] at hS'; exact hS', fun b o e => ?_⟩
          have hb : b < s.heap.objs.size := Heap.lt_size e
          have hb2 : b ≠ (s.heap.push (newSet led)).objs.size := by
            rw [Heap.size_push]; exact Nat.ne_of_lt (Nat.lt_succ_of_lt hb)
          exact mv.heap b o (by simp only [List.mem_cons, List.not_mem_nil, or_false, not_or]; exact ⟨Nat.ne_of_lt hb, hb2⟩) (Heap.get?_push_of_some _ (Heap.get?_push_of_some _ e))
      · cases r2 with
        | error e => exact hr2
        | ok fl2 =>
          cases fl2 with
          | ret r =>
            obtain ⟨rfl, h', tk, f, rfl, q1, q2⟩ := hr2
            repeat (any_goals (first | assumption | wp_step))
            exact h _ _ _ q1 q2
          | _ => exact hr2.elim
    | _ => exact hr.elim
end
end DI
set_option Elab.async false
set_option linter.all false
set_option maxRecDepth 100000
/-! Ssb: built-in functions of what another one gives: len(set(..)), sorted(set(..)), list(enumerate(..)), list(zip(..)). -/
namespace DI
open PySem PySem.Spec PyProof.Rows
open L2 hiding ixN
section
variable {W : Wd} {R : Addr} {Ex : XK} {b : Bool} {k : Nat} {c : SC} {q : Kd} {F H F' H' F1 H1 H0 : Hp} {v : V} {d : D} {X : Cx} {e : E}
theorem strsAre_of' : ∀ {ys : List Str} {us : List Value}, Vals (ys.map V.str) us → PyProof.Rows.StrsAre us ys
  | [], _, .nil => .nil
  | y :: ys, _, .cons r t => by
    obtain ⟨k, rfl⟩ := r
    exact .cons y k (strsAre_of' t)
theorem pe_lenS {e : Expr} {t : TA} {p p2 q pos : Pos} (hK : X.K = W.K) (hc : X.calm = true) (hg : Gl X "len") (hm : X.mg "len" = none) (hg2 : Gl X "set") (hm2 : X.mg "set" = none) (ha : PA X [e] t)
    (he : starEach [e] X.env = (false, eval e X.env) :: starEach [] X.env) : PE X (.Call (.Name "len" p) [.Call (.Name "set" p2) [e] [] q] [] pos) (tCB (rDn W R Ex .n (biD .lenset)) t) := by
  refine ⟨fun pins s σ H Q I h => ?_⟩
  refine Call_ (ld_blt I hg hm boot_len ?_)
  refine PyProof.Rows.callWith_builtin1 (PyProof.Rows.args_cons ?_ rfl) rfl rfl
  refine Call_ (ld_blt I hg2 hm2 PyProof.Rows.boot_set ?_)
  refine PyProof.Rows.callWith_type1 (thn (ha.run q pins s σ H _ I h) fun us s1 ⟨vs, H1, I1, r1, q1⟩ => ?_) he rfl
  obtain ⟨F, ρ, ds, G, ps, h0⟩ := q1
  obtain ⟨d, e1, h⟩ := h0.lift_some; clear h0
  match ds, e1 with
  | [x], e1 =>
    obtain ⟨es, e2, e3⟩ := Option.bind_eq_some_iff.mp (show ((seqD x).bind fun ds => (strsD ds).bind fun xs => if xs.length < 4000 then some (D.int (dcnt [] xs)) else none) = some d from e1)
    obtain ⟨ys, e4, e5⟩ := Option.bind_eq_some_iff.mp e3
    split at e5
    · rename_i hl
      cases e5
      obtain ⟨v, rfl, pv⟩ := ps.one
      obtain ⟨u, rfl, ru⟩ := r1.one
      have fin : ∀ (l : Addr) (h' : Heap) (tk : Nat) (f : Str → Bool), h'.SetOf (PySem.strKind X.prog X.w) s1.heap.objs.size f (dcnt [] ys) → (∀ b o, s1.heap.get? b = some o → h'.get? b = some o) →
          wpAny (model X.prog X.w) X.A (spliced (backTo pos (starEach [] X.env))) (fun vs s₂ => wpAny (model X.prog X.w) X.A (call (.builtin "len") (Value.ref s1.heap.objs.size :: vs)) (EP X pins σ Q) X.xe s₂) X.xe { s1 with heap := h', toks := tk } := fun l h' tk f hS hk => by
        refine PyProof.Rows.args_nil ?_
        obtain ⟨o, es, ep, t, ho, hex, hd, _, _, hb, hf, hn⟩ := hS
        refine call_len_set ho hex hd hf (by have : es.size < 4096 := hb; omega) ⟨.int (dcnt [] ys), H1, (I1.kept fun b o e => hk b o e).tok _, ⟨_, by rw [hn]⟩, h.flat G (.int _) rfl⟩
      cases x <;> try (cases e2)
      · obtain ⟨p, vs, rfl, hs, l, rr⟩ := (BB.of pv).tup
        obtain ⟨rfl, hy⟩ := strs_of e4 rr
        cases ru
        obtain ⟨its, r, pl, hz⟩ := I1.tuple (by rw [hK]; exact G.le.sqT hs)
        exact set_of_tuple (I1.ok.hd hc) pl (by simpa using strsAre_of' r) hl fun h' tk f hS hk => fin p h' tk f hS hk
      · obtain ⟨p, vs, rfl, hs, l, rr⟩ := (BB.of pv).lst G.le
        obtain ⟨rfl, hy⟩ := strs_of e4 rr
        cases ru
        obtain ⟨its, r, pl, hz⟩ := I1.list (.inl (.inl hs))
        exact set_of_list (I1.ok.hd hc) pl.isList (by simpa using strsAre_of' r) hl fun h' tk f hS hk => fin p h' tk f hS hk
    · cases e5

/-! ### sorted(set(..)) -/
theorem insI_mem (x : Int) : ∀ (l : List Int) (k : Int), k ∈ insI x l ↔ k = x ∨ k ∈ l
  | [], k => by simp [insI]
  | y :: r, k => by
    unfold insI
    by_cases h : x < y
    · rw [if_pos h]; simp
    · rw [if_neg h]
      by_cases h2 : x = y
      · rw [if_pos h2]; subst h2; simp
      · rw [if_neg h2, List.mem_cons, insI_mem x r k, List.mem_cons]
        constructor
        · rintro (z | z | z)
          · exact .inr (.inl z)
          · exact .inl z
          · exact .inr (.inr z)
        · rintro (z | z | z)
          · exact .inr (.inl z)
          · exact .inl z
          · exact .inr (.inr z)
theorem insI_srt (x : Int) : ∀ (l : List Int), l.Pairwise (· < ·) → (insI x l).Pairwise (· < ·)
  | [], _ => by simp [insI]
  | y :: r, h => by
    obtain ⟨h1, h2⟩ := List.pairwise_cons.mp h
    unfold insI
    by_cases h3 : x < y
    · rw [if_pos h3]
      exact List.pairwise_cons.mpr ⟨fun z hz => by
        rcases List.mem_cons.mp hz with e | e
        · rw [e]; exact h3
        · exact Int.lt_trans h3 (h1 z e), h⟩
    · rw [if_neg h3]
      by_cases h4 : x = y
      · rw [if_pos h4]; exact h
      · rw [if_neg h4]
        refine List.pairwise_cons.mpr ⟨fun z hz => ?_, insI_srt x r h2⟩
        rcases (insI_mem x r z).mp hz with e | e
        · omega
        · exact h1 z e
theorem ssI_mem : ∀ (l : List Int) (k : Int), k ∈ ssI l ↔ k ∈ l
  | [], k => by simp [ssI]
  | x :: r, k => by
    show k ∈ insI x (ssI r) ↔ _
    rw [insI_mem, ssI_mem r k, List.mem_cons]
theorem ssI_srt : ∀ (l : List Int), (ssI l).Pairwise (· < ·)
  | [] => List.Pairwise.nil
  | x :: r => insI_srt x _ (ssI_srt r)
theorem srt_uniq : ∀ {l m : List Int}, l.Pairwise (· < ·) → m.Pairwise (· < ·) → (∀ k, k ∈ l ↔ k ∈ m) → l = m
  | [], [], _, _, _ => rfl
  | [], y :: r, _, _, h => absurd ((h y).mpr List.mem_cons_self) (List.not_mem_nil)
  | x :: r, [], _, _, h => absurd ((h x).mp List.mem_cons_self) (List.not_mem_nil)
  | x :: r, y :: s, h1, h2, h => by
    obtain ⟨a1, a2⟩ := List.pairwise_cons.mp h1
    obtain ⟨b1, b2⟩ := List.pairwise_cons.mp h2
    have exy : x = y := by
      rcases List.mem_cons.mp ((h x).mp List.mem_cons_self) with e | e
      · exact e
      · rcases List.mem_cons.mp ((h y).mpr List.mem_cons_self) with e2 | e2
        · exact e2.symm
        · exact absurd (a1 y e2) (by have := b1 x e; omega)
    subst exy
    congr 1
    refine srt_uniq a2 b2 fun k => ⟨fun hk => ?_, fun hk => ?_⟩
    · rcases List.mem_cons.mp ((h k).mp (List.mem_cons_of_mem _ hk)) with e | e
      · exact absurd (a1 k hk) (by omega)
      · exact e
    · rcases List.mem_cons.mp ((h k).mpr (List.mem_cons_of_mem _ hk)) with e | e
      · exact absurd (b1 k hk) (by omega)
      · exact e
theorem reps_ints : ∀ (ns : List Int), Reps W R F (ns.map V.int) (ns.map D.int)
  | [] => .nil
  | n :: r => .cons (.int n) (reps_ints r)
theorem intsD_eq : ∀ {ds : List D} {ns : List Int}, intsD ds = some ns → ds = ns.map D.int
  | [], _, h => by cases h; rfl
  | .int i :: r, ns, h => by
    obtain ⟨l, e1, e2⟩ := Option.map_eq_some_iff.mp (show (intsD r).map (i :: ·) = some ns from h)
    subst e2
    rw [intsD_eq e1]
    rfl
theorem intsAre_of' : ∀ {ys : List Int} {us : List Value}, Vals (ys.map V.int) us → PyProof.Rows.IntsAre us ys
  | [], _, .nil => .nil
  | y :: ys, _, .cons r t => by
    obtain ⟨k, rfl⟩ := r
    exact .cons y k (intsAre_of' t)
theorem pe_sortS {e : Expr} {t : TA} {p p2 q pos : Pos} (hK : X.K = W.K) (hc : X.calm = true) (hg : Gl X "sorted") (hm : X.mg "sorted" = none) (hg2 : Gl X "set") (hm2 : X.mg "set" = none) (ha : PA X [e] t)
    (he : starEach [e] X.env = (false, eval e X.env) :: starEach [] X.env) : PE X (.Call (.Name "sorted" p) [.Call (.Name "set" p2) [e] [] q] [] pos) (tCB (rDn W R Ex .n (biD .sortset)) t) := by
  refine ⟨fun pins s σ H Q I h => ?_⟩
  refine Call_ (ld_blt I hg hm PyProof.Rows.boot_sorted ?_)
  refine PyProof.Rows.callWith_builtin1 (PyProof.Rows.args_cons ?_ rfl) rfl rfl
  refine Call_ (ld_blt I hg2 hm2 PyProof.Rows.boot_set ?_)
  refine PyProof.Rows.callWith_type1 (thn (ha.run q pins s σ H _ I h) fun us s1 ⟨vs, H1, I1, r1, q1⟩ => ?_) he rfl
  obtain ⟨F, ρ, ds, G, ps, h0⟩ := q1
  obtain ⟨d, e1, h⟩ := h0.lift_some; clear h0
  match ds, e1 with
  | [.lst es], e1 =>
    obtain ⟨ns, e2, e3⟩ := Option.bind_eq_some_iff.mp (show (intsD es).bind (fun ns => if ns.length < 62 then some (D.lst ((ssI ns).map .int)) else none) = some d from e1)
    split at e3
    · rename_i hl
      cases e3
      obtain ⟨v, rfl, pv⟩ := ps.one
      obtain ⟨u, rfl, ru⟩ := r1.one
      obtain ⟨pL, vs, rfl, hs, l, rr⟩ := (BB.of pv).lst G.le
      rw [ints_of e2 rr] at hs
      cases ru
      obtain ⟨its, r, pl, hz⟩ := I1.list (.inl (.inl hs))
      refine set_ints_list ns (I1.ok.hd hc) pl.isList (by simpa using intsAre_of' r) (by unfold scanBound; omega) fun h' tk c hS hcn hk => ?_
      refine PyProof.Rows.args_nil ?_
      have I2 : Inv X pins σ H1 { s1 with heap := h', toks := tk } := I1.kept (t' := tk) fun b o e => hk b o e
      refine sorted_set (s := { s1 with heap := h', toks := tk }) hS (I2.ok.hd hc) (by omega) fun s' pp out c2 ms k g o hp hgp hi hss hmm hll => ?_
      have hms : ms = ssI ns := srt_uniq hss (ssI_srt ns) fun k => by rw [hmm k, ssI_mem]; simp
      subst hms
      have hlen : ((ssI ns).map V.int).length ≤ sizeLine := by rw [List.length_map, hll, sizeLine_eq]; omega
      have hn : H1 pp = none := I2.hok.fresh hp
      have J : Inv X pins σ (upd H1 pp (.lst ((ssI ns).map V.int))) { ({ s1 with heap := h', toks := tk } : Shared) with heap := s'.heap, gens := s'.gens, drawn := s'.drawn, toks := s'.toks } :=
        I2.call (ch := []) (Un.laid k hp hn) (I2.hok.laid k hp ⟨hlen, out.toList, c2, vals_of_ints hi, hgp⟩) (by rw [g]; exact I2.bare) (fun _ z => nomatch z)
      have es' : s' = { ({ s1 with heap := h', toks := tk } : Shared) with heap := s'.heap, gens := s'.gens, drawn := s'.drawn, toks := s'.toks } := by
        cases s'
        cases s1
        cases o
        rfl
      rw [es']
      exact ⟨.ref pp, _, J, rfl, h.lst G (reps_ints _) hlen hn⟩
    · cases e3
/-! ### list(enumerate(..)), list(zip(..)) -/
theorem enumL_snoc : ∀ (ds : List D) (i : Nat) (d : D) (j : Int), ds[i]? = some d → (enumL j ds).take (i + 1) = (enumL j ds).take i ++ [.tup [.int (j + (i : Nat)), d]]
  | a :: r, 0, d, j, h => by
    cases h
    simp [enumL]
  | a :: r, i + 1, d, j, h => by
    have := enumL_snoc r i d (j + 1) (by simpa using h)
    simp only [enumL, List.take_succ_cons, List.cons_append]
    rw [this]
    congr 4
    congr 2
    omega
theorem zipL_snoc : ∀ (ds es : List D) (i : Nat) (d e : D), ds[i]? = some d → es[i]? = some e → (zipL ds es).take (i + 1) = (zipL ds es).take i ++ [.tup [d, e]]
  | a :: r, b :: s, 0, d, e, h, h2 => by
    cases h
    cases h2
    simp [zipL]
  | a :: r, b :: s, i + 1, d, e, h, h2 => by
    have := zipL_snoc r s i d e (by simpa using h) (by simpa using h2)
    simp only [zipL, List.take_succ_cons, List.cons_append]
    rw [this]
theorem two_le : 2 ≤ sizeLine := by rw [sizeLine_eq]; decide
/-- what the list holds so far -/
def JH (W : Wd) (R : Addr) (F H : Hp) (r : Rho) (l : List D) (i : Nat) (vs : List V) (H' : Hp) : Prop := ∃ F', Good W R F' H' r ∧ Grow R F H F' H' ∧ Reps W R F' vs (l.take i)
theorem JH.step {F H H1 : Hp} {r : Rho} {l : List D} {i : Nat} {vs : List V} {T : Addr} {row : List V} {ds : List D} (j : JH W R F H r l i vs H1) (hT : H1 T = none) (hl : row.length ≤ sizeLine) (hr : ∀ F', Le F F' → Reps W R F' row ds) (e : l.take (i + 1) = l.take i ++ [.tup ds]) :
    JH W R F H r l (i + 1) (vs ++ [.ref T]) (upd H1 T (.tup row)) := by
  obtain ⟨F', G', g', rs⟩ := j
  obtain ⟨G2, g2⟩ := G'.tup_new (xs := row) hT
  refine ⟨_, G2, g'.trans g2, ?_⟩
  rw [e]
  exact (rs.mono g2.le).append (.cons (.tup (.of upd_same) hl (hr _ (g'.le.trans g2.le))) .nil)
theorem pe_lenum {e : Expr} {t : TA} {p p2 q pos : Pos} (hK : X.K = W.K) (hc : X.calm = true) (hg : Gl X "list") (hm : X.mg "list" = none) (hg2 : Gl X "enumerate") (hm2 : X.mg "enumerate" = none) (ha : PA X [e] t)
    (he : starEach [e] X.env = (false, eval e X.env) :: starEach [] X.env) : PE X (.Call (.Name "list" p) [.Call (.Name "enumerate" p2) [e] [] q] [] pos) (tCB (rDn W R Ex .n (biD .lenum)) t) := by
  refine ⟨fun pins s σ H Q I h => ?_⟩
  refine Call_ (ld_blt I hg hm PyProof.Rows.boot_list ?_)
  refine PyProof.Rows.callWith_type1 (PyProof.Rows.args_cons ?_ rfl) rfl rfl
  refine Call_ (ld_blt I hg2 hm2 boot_enumerate ?_)
  refine PyProof.Rows.callWith_type1 (thn (ha.run q pins s σ H _ I h) fun us s1 ⟨vs, H1, I1, r1, q1⟩ => ?_) he rfl
  obtain ⟨F, ρ, ds, G, ps, h0⟩ := q1
  obtain ⟨d, e1, h⟩ := h0.lift_some; clear h0
  match ds, e1 with
  | [x], e1 =>
    obtain ⟨es, e2, e3⟩ := Option.map_eq_some_iff.mp (show (seqD x).map (fun ds => D.lst (enumL 0 ds)) = some d from e1)
    subst e3
    obtain ⟨v, rfl, pv⟩ := ps.one
    obtain ⟨u, rfl, ru⟩ := r1.one
    obtain ⟨z, xs, rfl, hl, hz, hw⟩ := src_of (b := false) G e2 pv
    obtain ⟨hq, rs⟩ := hw F H1 ρ G (LtOf.of_grow (.refl _ _ _))
    rw [← hK] at hq
    cases ru
    obtain ⟨its, rv, psq, hz2⟩ := src_seq I1 hq
    refine enum_begins1 (src_begins its.toArray) psq fun h' hen hit hsz hk => ?_
    refine PyProof.Rows.args_nil ?_
    have I2 : Inv X pins σ H1 { s1 with heap := h' } := I1.kept (t' := s1.toks) hk
    have hl1 : (z.ad : Nat) < s1.heap.objs.size := src_lt psq
    have hh : X.A.in1.in1.in1.handled = none := I1.ok.hd hc
    have hlen : its.toArray.size = xs.length := by rw [List.size_toArray, rv.length]
    refine call_list_held (s := { s1 with heap := h' }) (T := "enumerate") enum_nolen enum_nohint (by decide) (by decide) ⟨_, hen, rfl⟩ (fun A s' Q E st hQ => ?_) I2
      (hld_enum (e := s1.heap.objs.size + 1) (it := s1.heap.objs.size) (q := h'.objs.size) (src_draws (z := z) (it := s1.heap.objs.size) hh (Nat.ne_of_lt hl1) its.toArray) (Nat.succ_ne_self _) ?_ ?_ ?_ ?_)
      (fun i => [.int (i : Nat), xs.getD i .non]) (fun i us hi ⟨t, x, e, hx⟩ => ?_) (fun i => two_le) (by rw [hlen]; exact hz2)
      (JH W R F H1 ρ (enumL 0 es)) (fun i vs H2 T hi j hT _ => ?_) ⟨F, G, .refl _ _ _, .nil⟩ ⟨⟨itAt.new hit, ?_⟩, .inl ⟨_, hen⟩⟩ (fun b hb => ?_) (fun vs H2 j hq2 => ?_)
    · obtain ⟨_, he⟩ := st
      rcases he with ⟨old, he⟩ | ⟨old, T, f, oT, he, _⟩
      · exact wpAny_pyIter_enum he hQ
      · have hTz : s'.TypeIs (.ref (s1.heap.objs.size + 1)) "enumerate" := ⟨_, he, rfl⟩
        refine wpAny_pyIter_slot hTz PySem.F.slot_enumerate_iter (wpAny_call_entry PySem.F.slot_enumerate_iter hTz PySem.F.entry_enumerate_iter ?_ (PySem.F.args_enumerate_iter_1 _))
        show wpAny _ _ (ret (.ref _)) _ _ s'
        exact wpAny_pure ⟨_, rfl, "enumerate", _, hTz, PySem.F.slot_enumerate_next.lookup, hQ⟩
    · simp only [List.mem_cons, List.not_mem_nil, or_false, not_or]; exact ⟨Nat.succ_ne_self _, Nat.ne_of_gt (Nat.lt_succ_of_lt hl1)⟩
    · intro hm
      have hm : (h'.objs.size : Nat) = s1.heap.objs.size ∨ (h'.objs.size : Nat) = z.ad := by simpa using hm
      rw [hsz] at hm
      rcases hm with e | e
      · exact absurd e (Nat.ne_of_gt (Nat.lt_add_of_pos_right (by decide)))
      · exact absurd hl1 (Nat.not_lt.mpr (by rw [← e]; exact Nat.le_add_right _ _))
    · show h'.objs.size ≠ _; rw [hsz]; omega
    · show h'.objs.size ≠ _; rw [hsz]; omega
    · subst e
      have hx2 : its[i]? = some x := by simpa using hx
      have hi2 : i < xs.length := by rw [← hlen]; exact hi
      refine .cons ⟨t, rfl⟩ (.cons (get_of rv (show xs[i]? = some (xs.getD i .non) by rw [List.getD_eq_getElem?_getD, List.getElem?_eq_getElem hi2]; rfl) hx) .nil)
    · have hi2 : i < es.length := by rw [← hl, ← hlen]; exact hi
      have e1 : es[i]? = some es[i] := List.getElem?_eq_getElem hi2
      obtain ⟨y, e2, ry⟩ := rs.get e1
      have e3 : xs.getD i .non = y := by rw [List.getD_eq_getElem?_getD, e2]; rfl
      refine j.step hT two_le (fun F' le => .cons (.int _) (.cons (by rw [e3]; exact ry.mono le) .nil)) (ds := [.int (i : Nat), es[i]]) ?_
      have := enumL_snoc es i es[i] 0 e1
      rw [Int.zero_add] at this
      exact this
    · show seqAt z h' its.toArray
      cases z with
      | l a => obtain ⟨o, q1, q2⟩ := psq; exact ⟨o, hk _ _ q1, q2⟩
      | t a => obtain ⟨o, q1, q2⟩ := psq; exact ⟨o, hk _ _ q1, q2⟩
    · have e' : b = s1.heap.objs.size + 1 ∨ b = s1.heap.objs.size := by simpa using hb
      have hle : s1.heap.objs.size ≤ b := by
        rcases e' with z | z
        · rw [z]; exact Nat.le_add_right _ _
        · rw [z]; exact Nat.le_refl _
      exact ⟨I1.fpOk hle (I1.hok.fresh hle), by show (b : Nat) < h'.objs.size; rw [hsz]; rcases e' with z | z <;> (rw [z]; first | exact Nat.lt_add_of_pos_right (by decide) | exact Nat.add_lt_add_left (by decide) _)⟩
    · obtain ⟨F', G', g', rs'⟩ := j
      rw [hlen, hl, List.take_of_length_le (by rw [enumL_len]; exact Nat.le_refl _)] at rs'
      exact (h.grow g').lst G' rs' (by rw [rs'.length, enumL_len, ← hl]; exact hz2) hq2
theorem pe_lzip {e e2 : Expr} {t : TA} {p p2 q pos : Pos} (hK : X.K = W.K) (hc : X.calm = true) (hg : Gl X "list") (hm : X.mg "list" = none) (hg2 : Gl X "zip") (hm2 : X.mg "zip" = none) (ha : PA X [e, e2] t)
    (he : starEach [e, e2] X.env = (false, eval e X.env) :: starEach [e2] X.env) (hpl : (backTo q (starEach [e2] X.env)).any (·.1) = false) : PE X (.Call (.Name "list" p) [.Call (.Name "zip" p2) [e, e2] [] q] [] pos) (tCB (rDn W R Ex .n (biD .lzip)) t) := by
  refine ⟨fun pins s σ H Q I h => ?_⟩
  refine Call_ (ld_blt I hg hm PyProof.Rows.boot_list ?_)
  refine PyProof.Rows.callWith_type1 (PyProof.Rows.args_cons ?_ rfl) rfl rfl
  refine Call_ (ld_blt I hg2 hm2 PyProof.Rows.boot_zip ?_)
  refine PyProof.Rows.callWith_type1 (thn (ha.run q pins s σ H _ I h) fun us s1 ⟨vs, H1, I1, r1, q1⟩ => ?_) he hpl
  obtain ⟨F, ρ, ds, G, ps, h0⟩ := q1
  obtain ⟨d, e1, h⟩ := h0.lift_some; clear h0
  match ds, e1 with
  | [x, y], e1 =>
    obtain ⟨es, e2, e3⟩ := Option.bind_eq_some_iff.mp (show (seqD x).bind (fun ds => (seqD y).map fun es => D.lst (zipL ds es)) = some d from e1)
    obtain ⟨fs, e4, e5⟩ := Option.map_eq_some_iff.mp e3
    subst e5
    obtain ⟨v, v2, rfl, pv, pv2⟩ := ps.two
    obtain ⟨u, u2, rfl, ru, ru2⟩ := r1.two
    obtain ⟨z, xs, rfl, hl, hz, hw⟩ := src_of (b := false) G e2 pv
    obtain ⟨z2, ys, rfl, hl2, hz2, hw2⟩ := src_of (b := false) G e4 pv2
    obtain ⟨hq, rs⟩ := hw F H1 ρ G (LtOf.of_grow (.refl _ _ _))
    obtain ⟨hq2, rs2⟩ := hw2 F H1 ρ G (LtOf.of_grow (.refl _ _ _))
    rw [← hK] at hq hq2
    cases ru
    cases ru2
    obtain ⟨its, rv, psq, hzl⟩ := src_seq I1 hq
    obtain ⟨its2, rv2, psq2, hzl2⟩ := src_seq I1 hq2
    have la : (z.ad : Nat) < s1.heap.objs.size := src_lt psq
    have lb : (z2.ad : Nat) < s1.heap.objs.size := src_lt psq2
    refine zip_begins2 (src_begins its.toArray) (src_begins its2.toArray) psq psq2 fun h' hzp hTI hTO h1 h2 hsz hk => ?_
    refine PyProof.Rows.args_nil ?_
    have I2 : Inv X pins σ H1 { s1 with heap := h' } := I1.kept (t' := s1.toks) hk
    have hh : X.A.in1.in1.in1.handled = none := I1.ok.hd hc
    have hlen : its.toArray.size = xs.length := by rw [List.size_toArray, rv.length]
    have hlen2 : its2.toArray.size = ys.length := by rw [List.size_toArray, rv2.length]
    have sq : ∀ {z : Src} {its : Array Value}, seqAt z s1.heap its → seqAt z h' its := fun {z its} psq => by
      cases z with
      | l a => obtain ⟨o, q1, q2⟩ := psq; exact ⟨o, hk _ _ q1, q2⟩
      | t a => obtain ⟨o, q1, q2⟩ := psq; exact ⟨o, hk _ _ q1, q2⟩
    have hsz : h'.objs.size = s1.heap.objs.size + 5 := hsz
    refine call_list_held (s := { s1 with heap := h' }) (T := "zip") zip_nolen zip_nohint (by decide) (by decide) ⟨_, hzp, rfl⟩ (fun A s' Q E st hQ => ?_) I2
      (hld_zip (q := h'.objs.size) (zip_sep2 (N := s1.heap.objs.size) (fp1 := [z.ad]) (fp2 := [z2.ad]) (by simpa using la) (by simpa using lb)) (src_draws (z := z) hh (Nat.ne_of_lt la) its.toArray) (src_draws (z := z2) hh (Nat.ne_of_lt (Nat.lt_succ_of_lt lb)) its2.toArray) ?_ ?_ ?_ ?_ ?_)
      (fun i => [xs.getD i .non, ys.getD i .non]) (fun i us hi ⟨a, b, e, hx, hy⟩ => ?_) (fun i => two_le) (by rw [hlen]; omega)
      (JH W R F H1 ρ (zipL es fs)) (fun i vs H2 T hi j hT _ => ?_) ⟨F, G, .refl _ _ _, .nil⟩ ⟨hTI, ⟨itAt.new h1, sq psq⟩, ⟨itAt.new h2, sq psq2⟩, .inl ⟨hzp, _, _, hTO⟩⟩ (fun b hb => ?_) (fun vs H2 j hq2 => ?_)
    · obtain ⟨_, _, _, he⟩ := st
      rcases he with ⟨he, _⟩ | ⟨T, f, oT, he, _⟩
      · exact wpAny_pyIter_zip he hQ
      · have hTz : s'.TypeIs (.ref (s1.heap.objs.size + 4)) "zip" := ⟨_, he, rfl⟩
        refine wpAny_pyIter_slot hTz PySem.F.slot_zip_iter (wpAny_call_entry PySem.F.slot_zip_iter hTz PySem.F.entry_zip_iter ?_ (PySem.F.args_zip_iter_1 _))
        show wpAny _ _ (ret (.ref _)) _ _ s'
        exact wpAny_pure ⟨_, rfl, "zip", _, hTz, PySem.F.slot_zip_next.lookup, hQ⟩
    · intro hm
      have hm : (h'.objs.size : Nat) = s1.heap.objs.size ∨ (h'.objs.size : Nat) = z.ad := by simpa using hm
      rw [hsz] at hm
      rcases hm with e | e
      · exact absurd e (Nat.ne_of_gt (Nat.lt_add_of_pos_right (by decide)))
      · exact absurd la (Nat.not_lt.mpr (by rw [← e]; exact Nat.le_add_right _ _))
    · intro hm
      have hm : (h'.objs.size : Nat) = s1.heap.objs.size + 1 ∨ (h'.objs.size : Nat) = z2.ad := by simpa using hm
      rw [hsz] at hm
      rcases hm with e | e
      · exact absurd e (Nat.ne_of_gt (Nat.add_lt_add_left (by decide) _))
      · exact absurd lb (Nat.not_lt.mpr (by rw [← e]; exact Nat.le_add_right _ _))
    · show h'.objs.size ≠ _; rw [hsz]; omega
    · show h'.objs.size ≠ _; rw [hsz]; omega
    · show h'.objs.size ≠ _; rw [hsz]; omega
    · subst e
      have hi2 : i < xs.length := by rw [← hlen]; omega
      have hi3 : i < ys.length := by rw [← hlen2]; omega
      refine .cons (get_of rv (show xs[i]? = some (xs.getD i .non) by rw [List.getD_eq_getElem?_getD, List.getElem?_eq_getElem hi2]; rfl) hx) (.cons (get_of rv2 (show ys[i]? = some (ys.getD i .non) by rw [List.getD_eq_getElem?_getD, List.getElem?_eq_getElem hi3]; rfl) hy) .nil)
    · have hi2 : i < es.length := by rw [← hl, ← hlen]; omega
      have hi3 : i < fs.length := by rw [← hl2, ← hlen2]; omega
      have e1 : es[i]? = some es[i] := List.getElem?_eq_getElem hi2
      have f1 : fs[i]? = some fs[i] := List.getElem?_eq_getElem hi3
      obtain ⟨a, e2, ra⟩ := rs.get e1
      obtain ⟨b, f2, rb⟩ := rs2.get f1
      have e3 : xs.getD i .non = a := by rw [List.getD_eq_getElem?_getD, e2]; rfl
      have f3 : ys.getD i .non = b := by rw [List.getD_eq_getElem?_getD, f2]; rfl
      exact j.step hT two_le (fun F' le => .cons (by rw [e3]; exact ra.mono le) (.cons (by rw [f3]; exact rb.mono le) .nil)) (ds := [es[i], fs[i]]) (zipL_snoc es fs i _ _ e1 f1)
    · have e' : b = s1.heap.objs.size + 4 ∨ b = s1.heap.objs.size + 3 ∨ b = s1.heap.objs.size ∨ b = s1.heap.objs.size + 1 := by simpa using hb
      have hle : s1.heap.objs.size ≤ b := by rcases e' with z | z | z | z <;> (rw [z]; first | exact Nat.le_add_right _ _ | exact Nat.le_refl _)
      exact ⟨I1.fpOk hle (I1.hok.fresh hle), by show (b : Nat) < h'.objs.size; rw [hsz]; rcases e' with z | z | z | z <;> (rw [z]; first | exact Nat.lt_add_of_pos_right (by decide) | exact Nat.add_lt_add_left (by decide) _)⟩
    · obtain ⟨F', G', g', rs'⟩ := j
      have hzl3 : (zipL es fs).length = min es.length fs.length := zipL_len
      rw [hlen, hl, hlen2, hl2, List.take_of_length_le (by rw [hzl3]; exact Nat.le_refl _)] at rs'
      exact (h.grow g').lst G' rs' (by rw [rs'.length, hzl3]; omega) hq2
theorem rg_one {i j : Int} (h : -(2 ^ 62) ≤ i ∧ i < 2 ^ 62 ∧ -(2 ^ 62) ≤ j ∧ j < 2 ^ 62 ∧ j - i ≤ 16000000) : RgC i j 1 (j - i).toNat ∧ (j - i).toNat ≤ 16000000 :=
  ⟨⟨by decide, by decide, small_one h.1 h.2.1 h.2.2.1 h.2.2.2.1, rangeSize_nat i j⟩, by omega⟩
theorem vals_rgC {a cc : Int} {n : Nat} {acc : Array Value} (h : ItemsOf (fun i v => ∃ t, v = .int (a + i * cc) t) acc n) : Vals ((List.range n).map fun i => V.int (a + (i : Nat) * cc)) acc.toList := by
  have e : acc.toList.length = n := by rw [Array.length_toList]; exact h.1
  rw [← e]
  refine L2.vals_of_get acc.toList _ fun j u hj => ?_
  obtain ⟨t, rfl⟩ := h.2 j u (by rw [← hj, Array.getElem?_toList])
  exact ⟨t, rfl⟩
theorem reps_rgC {a cc : Int} {n : Nat} {F : Hp} : Reps W R F ((List.range n).map fun i => V.int (a + (i : Nat) * cc)) (rngC a cc n) := by
  unfold rngC
  generalize List.range n = l
  induction l with
  | nil => exact .nil
  | cons i r ih => exact .cons (.int _) ih
/-- list(range(..)), the range just made -/
theorem lrg_end {pins : List (Addr × Obj)} {s : Shared} {σ : L2.St} {H F : Hp} {ρ : Rho} {Q : VK} {r : Addr} {a cc bb : Int} {t u v : Tok} {n : Nat} (hc : X.calm = true) (I : Inv X pins σ H s) (hr : IsRange s.heap r a bb cc t u v) (hg : RgC a bb cc n) (hn : n ≤ 16000000)
    (G : Good W R F H ρ) (h : PostE W R Ex .n F H Q (.ok (.lst (rngC a cc n)) ρ)) : wpAny (model X.prog X.w) X.A (call (.type "list") [.ref r]) (EP X pins σ Q) X.xe s := by
  obtain ⟨_, _, c2, c3⟩ := hg
  refine call_list_range (n := n) (I.ok.hd hc) hr c2 c3 (by omega) fun h' tk acc c' hk e' hi => ?_
  have hl : ((List.range n).map fun i => V.int (a + (i : Nat) * cc)).length ≤ sizeLine := by rw [List.length_map, List.length_range, sizeLine_eq]; omega
  refine ⟨.ref s.heap.objs.size, upd H s.heap.objs.size (.lst ((List.range n).map fun i => V.int (a + (i : Nat) * cc))), I.laid hk (Nat.le_refl _) (show ObjOk X.prog X.w _ _ _ (.lst _) from ⟨hl, acc.toList, c', vals_rgC hi, by rw [Array.toArray_toList]; exact e'⟩), rfl, h.lst G reps_rgC hl (I.hok.fresh (Nat.le_refl _))⟩
theorem rngL_C (lo : Int) (n : Nat) : rngL lo n = rngC lo 1 n := by unfold rngL rngC; simp only [Int.mul_one]
theorem pe_lrng2 {e e2 : Expr} {t : TA} {p p2 q pos : Pos} (hc : X.calm = true) (hg : Gl X "list") (hm : X.mg "list" = none) (hg2 : Gl X "range") (hm2 : X.mg "range" = none) (ha : PA X [e, e2] t)
    (he : starEach [e, e2] X.env = (false, eval e X.env) :: starEach [e2] X.env) (hpl : (backTo q (starEach [e2] X.env)).any (·.1) = false) : PE X (.Call (.Name "list" p) [.Call (.Name "range" p2) [e, e2] [] q] [] pos) (tCB (rDn W R Ex .n (biD .lrng2)) t) := by
  refine ⟨fun pins s σ H Q I h => ?_⟩
  refine Call_ (ld_blt I hg hm PyProof.Rows.boot_list ?_)
  refine PyProof.Rows.callWith_type1 (PyProof.Rows.args_cons ?_ rfl) rfl rfl
  refine Call_ (ld_blt I hg2 hm2 PyProof.Rows.boot_range ?_)
  refine PyProof.Rows.callWith_type1 (thn (ha.run q pins s σ H _ I h) fun us s1 ⟨vs, H1, I1, r1, q1⟩ => ?_) he hpl
  obtain ⟨F, ρ, ds, G, ps, h0⟩ := q1
  obtain ⟨d, e1, h⟩ := h0.lift_some; clear h0
  match ds, e1 with
  | [.int i, .int j], e1 =>
    have e1 : (if -(2 ^ 62) ≤ i ∧ i < 2 ^ 62 ∧ -(2 ^ 62) ≤ j ∧ j < 2 ^ 62 ∧ j - i ≤ 16000000 then some (D.lst (rngL i (j - i).toNat)) else none) = some d := e1
    by_cases hj : -(2 ^ 62) ≤ i ∧ i < 2 ^ 62 ∧ -(2 ^ 62) ≤ j ∧ j < 2 ^ 62 ∧ j - i ≤ 16000000
    · rw [if_pos hj] at e1
      cases e1
      obtain ⟨v1, v2, rfl, k1, k2⟩ := ps.two
      rw [k1.bb.int, k2.bb.int] at r1
      obtain ⟨t1, t2, rfl⟩ : ∃ t1 t2, us = [Value.int i t1, Value.int j t2] := by
        cases r1 with
        | cons ra rr =>
          cases rr with
          | cons rb rr =>
            cases rr
            obtain ⟨t1, rfl⟩ := ra
            obtain ⟨t2, rfl⟩ := rb
            exact ⟨t1, t2, rfl⟩
      refine call_range_2 (PyProof.Rows.args_nil ?_)
      rw [rngL_C] at h
      exact lrg_end hc (I1.kept fun b o e => Heap.get?_push_of_some _ e) (IsRange.new ..) (rg_one hj).1 (rg_one hj).2 G h
    · rw [if_neg hj] at e1; cases e1
theorem pe_lrng3 {e e2 e3 : Expr} {t : TA} {p p2 q pos : Pos} (hc : X.calm = true) (hg : Gl X "list") (hm : X.mg "list" = none) (hg2 : Gl X "range") (hm2 : X.mg "range" = none) (ha : PA X [e, e2, e3] t)
    (he : starEach [e, e2, e3] X.env = (false, eval e X.env) :: starEach [e2, e3] X.env) (hpl : (backTo q (starEach [e2, e3] X.env)).any (·.1) = false) : PE X (.Call (.Name "list" p) [.Call (.Name "range" p2) [e, e2, e3] [] q] [] pos) (tCB (rDn W R Ex .n (biD .lrng3)) t) := by
  refine ⟨fun pins s σ H Q I h => ?_⟩
  refine Call_ (ld_blt I hg hm PyProof.Rows.boot_list ?_)
  refine PyProof.Rows.callWith_type1 (PyProof.Rows.args_cons ?_ rfl) rfl rfl
  refine Call_ (ld_blt I hg2 hm2 PyProof.Rows.boot_range ?_)
  refine PyProof.Rows.callWith_type1 (thn (ha.run q pins s σ H _ I h) fun us s1 ⟨vs, H1, I1, r1, q1⟩ => ?_) he hpl
  obtain ⟨F, ρ, ds, G, ps, h0⟩ := q1
  obtain ⟨d, e1, h⟩ := h0.lift_some; clear h0
  match ds, e1 with
  | [.int i, .int j, .int n], e1 =>
    have e1 : (if 0 < n ∧ n < 1073741824 ∧ -(2 ^ 60) ≤ i ∧ i < 2 ^ 60 ∧ -(2 ^ 60) ≤ j ∧ j < 2 ^ 60 ∧ j - i ≤ 16000000 then some (D.lst (rngC i n ((j - i + n - 1) / n).toNat)) else none) = some d := e1
    by_cases hj : 0 < n ∧ n < 1073741824 ∧ -(2 ^ 60) ≤ i ∧ i < 2 ^ 60 ∧ -(2 ^ 60) ≤ j ∧ j < 2 ^ 60 ∧ j - i ≤ 16000000
    · rw [if_pos hj] at e1
      cases e1
      obtain ⟨v1, v2, v3, rfl, k1, k2, k3⟩ : ∃ v1 v2 v3, vs = [v1, v2, v3] ∧ PK W R .b H1 F H1 v1 (.int i) ∧ PK W R .b H1 F H1 v2 (.int j) ∧ PK W R .b H1 F H1 v3 (.int n) := by
        cases ps with
        | cons k1 ps =>
          cases ps with
          | cons k2 ps =>
            cases ps with
            | cons k3 ps =>
              cases ps
              exact ⟨_, _, _, rfl, k1, k2, k3⟩
      rw [k1.bb.int, k2.bb.int, k3.bb.int] at r1
      obtain ⟨t1, t2, t3, rfl⟩ : ∃ t1 t2 t3, us = [Value.int i t1, Value.int j t2, Value.int n t3] := by
        cases r1 with
        | cons ra rr =>
          cases rr with
          | cons rb rr =>
            cases rr with
            | cons rc rr =>
              cases rr
              obtain ⟨t1, rfl⟩ := ra
              obtain ⟨t2, rfl⟩ := rb
              obtain ⟨t3, rfl⟩ := rc
              exact ⟨t1, t2, t3, rfl⟩
      refine call_range_3 (by omega) (PyProof.Rows.args_nil ?_) (.inl (PyProof.noPylong_small (by omega)))
      exact lrg_end hc (I1.kept (t' := s1.toks) fun b o e => Heap.get?_push_of_some _ e) (IsRange.new ..) (rg_step hj).1 (rg_step hj).2 G h
    · rw [if_neg hj] at e1; cases e1
theorem rd_bi2 (wok : WOk W) (hk : 0 < k) {b : Bi} {z : Str} {es : E} (hb : bi2 b = some z) (h : Rd W R Ex k c es) : Rd W R Ex k c (.bi b es) := by
  have key : ∀ x, chk (.bi b es) c (.e x) = true → ∃ a as p1 p2 p3 p4, x = .Call (.Name (biN b) p1) [.Call (.Name z p2) (a :: as) [] p3] [] p4 ∧ glB c (biN b) = true ∧ glB c z = true ∧ as.length = biA b ∧ chk es c (.es (a :: as)) = true := by
    intro x h
    cases x <;> try (exact (Bool.false_ne_true h).elim)
    rename_i f args kws p4
    cases f <;> try (exact (Bool.false_ne_true h).elim)
    rename_i y p1
    match args, kws, h with
    | a :: as, [], h =>
      obtain ⟨h1, h2⟩ := ba (show (decide (biN b = y) && (glB c y && (match bi2 b with
        | none => chk es c (.es (a :: as))
        | some z => as.isEmpty && (glB c z && (match inArg z a with
          | some (x, xs) => decide (xs.length = biA b) && chk es c (.es (x :: xs))
          | none => false))))) = true from h)
      rw [hb] at h2
      have : biN b = y := of_decide_eq_true h1
      subst this
      obtain ⟨h3, h4⟩ := ba h2
      obtain ⟨h5, h6⟩ := ba h4
      obtain ⟨h7, h8⟩ := ba h6
      have : as = [] := List.isEmpty_iff.mp h5
      subst this
      cases e : inArg z a with
      | none => rw [e] at h8; exact (Bool.false_ne_true h8).elim
      | some q =>
        rw [e] at h8
        obtain ⟨x, xs⟩ := q
        obtain ⟨p2, p3, rfl⟩ := inArg_of e
        obtain ⟨h8, h9⟩ := ba h8
        exact ⟨x, xs, _, p2, p3, _, rfl, h3, h7, of_decide_eq_true h8, h9⟩
    | [], _, h => exact (Bool.false_ne_true h).elim
    | _ :: _, _ :: _, h => exact (Bool.false_ne_true h).elim
  refine .plain (fun xs => rfl) rfl (fun x h => by obtain ⟨a, as, p1, p2, p3, p4, rfl, _⟩ := key x h; rfl) fun x hc => ?_
  obtain ⟨a, as, p1, p2, p3, p4, rfl, h1, h2, har, h3⟩ := key x hc
  obtain ⟨t, pa, sa, _⟩ := h.arg _ h3
  have hst := chk_star h3
  obtain ⟨hs1, hs2⟩ := ba (show (notStar a && as.all notStar) = true from hst)
  refine ⟨tCB (rDn W R Ex .n (biD b)) t, fun X hX => ?_, ?_⟩
  · obtain ⟨g1, g2⟩ := glB_of h1 hX
    obtain ⟨g3, g4⟩ := glB_of h2 hX
    have f1 : X.mg (biN b) = none := by rw [hX.mg]; exact wok.free _ (by cases b <;> decide)
    have f2 : X.mg z = none := by rw [hX.mg]; exact wok.free _ (by cases b <;> cases hb <;> decide)
    cases b <;> cases hb
    · match as, har with
      | [], _ => exact pe_lenS hX.K (hX.calm hk) g1 f1 g3 f2 (pa X hX) (starEach_of hs1)
    · match as, har with
      | [], _ => exact pe_lenum hX.K (hX.calm hk) g1 f1 g3 f2 (pa X hX) (starEach_of hs1)
    · match as, har with
      | [_], _ => exact pe_lzip hX.K (hX.calm hk) g1 f1 g3 f2 (pa X hX) (starEach_of hs1) (back_of hs2)
    · match as, har with
      | [], _ => exact pe_sortS hX.K (hX.calm hk) g1 f1 g3 f2 (pa X hX) (starEach_of hs1)
    · match as, har with
      | [_], _ => exact pe_lrng2 (hX.calm hk) g1 f1 g3 f2 (pa X hX) (starEach_of hs1) (back_of hs2)
    · match as, har with
      | [_, _], _ => exact pe_lrng3 (hX.calm hk) g1 f1 g3 f2 (pa X hX) (starEach_of hs1) (back_of hs2)
  · have : kd (.bi b es) = .n := by cases b <;> rfl
    rw [this]
    exact satA_bind sa fun F H F1 H1 r Q vs ds G g1 ps p => ⟨F1, r, ds, G, ps.bb, p⟩
end
end DI
set_option Elab.async false
set_option linter.all false
set_option maxRecDepth 100000
/-! Srl: lambdas without captured names: made, called. -/
namespace DI
open PySem PySem.Spec PyProof.Rows
open L2 hiding ixN
section
variable {W : Wd} {R : Addr} {Ex : XK} {b : Bool} {k : Nat} {c : SC} {q : Kd} {F H F' H' F1 H1 H0 : Hp} {v : V} {d : D} {X : Cx} {e : E}
theorem lamSC_of {ps : List Str} {sc : Scope} (h : lamSC ps sc = true) : sc.kind = .function ∧ sc.isCoroutine = false ∧ sc.isGenerator = false ∧ ps.Nodup ∧ (∀ x ∈ ps, sc.names.lookup x = some .local) ∧ ∀ y ∈ sc.names, y.2 ≠ .cell ∧ y.2 ≠ .free := by
  unfold lamSC at h
  obtain ⟨h1, h⟩ := ba h
  obtain ⟨h2, h⟩ := ba h
  obtain ⟨h3, h⟩ := ba h
  obtain ⟨h4, h⟩ := ba h
  obtain ⟨h5, h6⟩ := ba h
  refine ⟨of_decide_eq_true h1, by simpa using h2, by simpa using h3, of_decide_eq_true h4, fun x hx => of_decide_eq_true (List.all_eq_true.mp h5 x hx), fun y hy => ?_⟩
  obtain ⟨a, b⟩ := ba (List.all_eq_true.mp h6 y hy)
  exact ⟨by simpa using a, by simpa using b⟩
/-- it binds its arguments -/
theorem lam_bind {pa : Arguments} {ps : List Str} (h : paramsB pa ps = true) {qual : Str} {body : Expr} {sc : Scope} {cl : List (Str × Addr)} {pm cv ctv : Value} {us : List Value} (hl : us.length = ps.length) :
    bindArgs (PySem.W.kla_fn "<lambda>" qual pa body sc cl pm cv ctv) ⟨us, []⟩ = pure (ps.zip us) ∧ ∀ env, defaultsOf pa env = ([], []) := by
  unfold paramsB at h
  split at h
  · rename_i x p1 p2 a
    obtain ⟨h1, h2⟩ := ba h
    have : x = a := of_decide_eq_true h1
    subst this
    match us, hl with
    | [u], _ =>
      rcases Bool.or_eq_true_iff.mp h2 with z | z
      · have := of_decide_eq_true z; subst this; exact ⟨rfl, fun _ => rfl⟩
      · have := of_decide_eq_true z; subst this; exact ⟨rfl, fun _ => rfl⟩
  · rename_i x p1 p2 y p3 p4 a b
    obtain ⟨h1, h4⟩ := ba h
    obtain ⟨h2, h3⟩ := ba h4
    have e1 : x = a := of_decide_eq_true h1
    have e2 : y = b := of_decide_eq_true h2
    clear h h1 h2 h4
    subst e1 e2
    match us, hl with
    | [u, u2], _ =>
      rcases Bool.or_eq_true_iff.mp h3 with z | z
      · obtain ⟨z1, z2⟩ := of_decide_eq_true z; subst z1 z2; exact ⟨rfl, fun _ => rfl⟩
      · obtain ⟨z1, z2⟩ := of_decide_eq_true z; subst z1 z2; exact ⟨rfl, fun _ => rfl⟩
  · cases h
abbrev lamE (qual : Str) (scope : Scope) (L f c' : Addr) : Env := PySem.W.envX qual scope L f (.ref c') []
/-- the context of a lambda's body -/
def lamC (W : Wd) (ps : List Str) (qual : Str) (scope : Scope) (A : Around) (outer : List Env) (s : Shared) (H : Hp) (E : XK) (f c' : Addr) : Cx where
  prog := W.P
  w := W.w
  K := W.K
  mg := W.mg
  base := W.base
  A := A.deeper (lamE qual scope s.heap.objs.size f c')
  N := ps
  s_0 := s
  H_0 := H
  env := lamE qual scope s.heap.objs.size f c'
  outer := outer
  stack := lamE qual scope s.heap.objs.size f c' :: outer
  ex := []
  fn := fun _ => true
  calm := true
  pn := []
  xe := fun e s' => wpAny (model W.P W.w) (A.deeper (lamE qual scope s.heap.objs.size f c')) (leaving (lamE qual scope s.heap.objs.size f c') e) (fun _ s'' => L2.CX W.P W.w outer H s E e s'') (fun e' s'' => L2.CX W.P W.w outer H s E e' s'') s'
theorem zip_look {ps : List Str} {us : List Value} (hn : ps.Nodup) {i : Nat} {x : Str} {u : Value} (h1 : ps[i]? = some x) (h2 : us[i]? = some u) : (ps.zip us).reverse.lookup x = some u := by
  have hm : (x, u) ∈ ps.zip us := List.mem_iff_getElem?.mpr ⟨i, by rw [List.getElem?_zip_eq_some]; exact ⟨h1, h2⟩⟩
  obtain ⟨u', e⟩ := L2.mem_lookup (List.mem_reverse.mpr hm)
  have hm' := List.mem_reverse.mp (PySem.mem_of_lookup e)
  obtain ⟨j, hj⟩ := List.mem_iff_getElem?.mp hm'
  rw [List.getElem?_zip_eq_some] at hj
  have : j = i := nodup_ix hn hj.1 h1
  subst this
  rw [e]
  rw [h2] at hj
  exact hj.2.symm
theorem lam_start {ps : List Str} {qual : Str} {scope : Scope} {A : Around} {outer : List Env} {E : XK} {f c' : Addr} {s : Shared} {h₁ : Heap} {tk : Nat} {us : List Value} {vs : List V} (L : lamSC ps scope = true) (e0 : Env0 W.P W.w W.K W.mg W.base A outer s H) (hd : A.handled = none)
    (r : Vals vs us) (hl : vs.length = ps.length) (hns : h₁.Ns s.heap.objs.size fun y => (ps.zip us).reverse.lookup y) (kp : ∀ b o, s.heap.get? b = some o → h₁.get? b = some o) :
    Inv (lamC W ps qual scope A outer s H E f c') [] (L2.start ps vs) H { s with heap := h₁, toks := tk } := by
  obtain ⟨l1, l2, l3, l4, l5, l6⟩ := lamSC_of L
  have noA : ∀ b : Addr, b ∉ (lamC W ps qual scope A outer s H E f c').ex := fun b z => absurd (show b ∈ ([] : List Addr) from z) (by simp)
  have nocell : ∀ x (c : Addr), ¬ (([] : List (Str × Addr)).lookup x = some c) := fun x c z => by cases z
  have nofree : ∀ y, scope.names.lookup y ≠ some .cell ∧ scope.names.lookup y ≠ some .free := fun y => ⟨fun z => (l6 _ (PySem.mem_of_lookup z)).1 rfl, fun z => (l6 _ (PySem.mem_of_lookup z)).2 rfl⟩
  refine ⟨⟨e0.mod, l1, rfl, rfl, Nat.le_refl _, fun y z c e1 e2 => absurd e1 (nocell _ _), fun y hy => ?_, fun y c z e1 => absurd e1 (nocell _ _), fun _ => hd, Around.frames_deeper e0.frames, .inr ⟨rfl, rfl⟩, fun b z => absurd z (noA b), e0.bs, e0.bsz, fun b _ _ => noA b,
      fun b z => absurd z (noA b), e0.funs, e0.frf⟩,
    rfl, e0.bare, Un.kept kp, ⟨_, hns, fun i y v e1 e2 e3 => ?_⟩, fun y c e => absurd e (nocell _ _), e0.hok.fresh (Nat.le_refl _), fun y c e => absurd e (nocell _ _), fun q hq => absurd (show q ∈ ([] : List (Addr × Obj)) ++ [] from hq) (by simp), e0.hok.kept kp, ?_⟩
  · have hy : scope.names.lookup y = some .cell ∨ scope.names.lookup y = some .free := hy
    rcases hy with hy | hy
    · exact absurd hy (nofree y).1
    · exact absurd hy (nofree y).2
  · have e1 : ps[i]? = some y := e1
    have e2 : (L2.start ps vs)[i]? = some (some v) := e2
    unfold L2.start at e2
    rw [hl, Nat.sub_self, List.replicate_zero, List.append_nil, List.getElem?_map] at e2
    obtain ⟨v', e4, e5⟩ := Option.map_eq_some_iff.mp e2
    cases e5
    obtain ⟨u, e6, ru⟩ := r.get e4
    exact ⟨u, ru, .inl ⟨l5 y (List.mem_of_getElem? e1), zip_look l4 e1 e6⟩⟩
  · show (L2.start ps vs).length = ps.length
    unfold L2.start
    rw [hl, Nat.sub_self, List.replicate_zero, List.append_nil, List.length_map, hl]
theorem XOk.lamC {ps : List Str} {qual : Str} {scope : Scope} {A : Around} {outer : List Env} {f c' : Addr} {s : Shared} (L : lamSC ps scope = true) (hr : Room k (A.deeper (lamE qual scope s.heap.objs.size f c'))) :
    XOk W (lamSc ps scope) k Ex (lamC W ps qual scope A outer s H Ex f c') where
  prog := rfl
  w := rfl
  K := rfl
  mg := rfl
  base := rfl
  N := rfl
  sc := rfl
  fn := rfl
  nd := (lamSC_of L).2.2.2.1
  calm := fun _ => rfl
  room := fun _ => hr
  un0 := by
    have := hr.un
    show (A.deeper (lamE qual scope s.heap.objs.size f c')).units + 65 < cLine
    omega
  gd := fun z => nomatch z
  lcx := fun z => nomatch z
  hot := fun z => nomatch z
  tk := takes_of rfl rfl rfl rfl
  lm := fun z => by cases z
theorem startP_ok {ps : List Str} {vs : List V} {ds : List D} (rs : Reps W R F vs ds) (hl : vs.length = ps.length) : StOk W R H0 F H (L2.start ps vs) (startD ps.length ds) := by
  have hd := rs.length
  have e1 : L2.start ps vs = vs.map some := by unfold L2.start; rw [hl, Nat.sub_self, List.replicate_zero, List.append_nil]
  have e2 : startD ps.length ds = ds.map .val := by unfold startD; rw [← hl, hd, Nat.sub_self, List.replicate_zero, List.append_nil]
  rw [e1, e2]
  refine ⟨by rw [List.length_map, List.length_map, hd], fun i s e => ?_, fun i j s u a hi hj hs hu _ _ => ?_⟩
  · rw [List.getElem?_map] at e ⊢
    obtain ⟨d, e1, e2⟩ := Option.map_eq_some_iff.mp e
    subst e2
    obtain ⟨v, e3, rv⟩ := rs.get e1
    rw [e3]
    exact ⟨v, rfl, rv⟩
  · rw [List.getElem?_map] at hi
    obtain ⟨d, e1, e2⟩ := Option.map_eq_some_iff.mp hi
    subst e2; cases hs
/-- a lambda computes what its body says -/
theorem lam_ok {n : Nat} {gF : Fn} (h : ∀ ps g, W.lams n = some (ps, g) → noB g ∧ gF = lamF ps.length g ∧ ∀ (R : Addr) (E : XK) (sc : Scope), Rd W R E k (lamSc ps sc) g) : LamS W (k + 1) n gF := by
  intro ps g hg
  obtain ⟨nb, rfl, hr⟩ := h ps g hg
  refine ⟨fun ds r z => by unfold lamF; rw [if_neg z], fun A outer s H f us vs Q E room e0 la rv sp => ?_⟩
  obtain ⟨c', qual, h1, h2⟩ := la
  obtain ⟨⟨params, body, scope, pm, ctv, of1, hL, hP, hc⟩, _, _⟩ := e0.hok f _ h1
  obtain ⟨⟨oc, wv, t, hoc, hdc, hvc⟩, _, _⟩ := e0.hok c' _ h2
  obtain ⟨hvl, R, F, r, ds, G, rs, p⟩ := sp
  obtain ⟨l1, l2, l3, l4, l5, l6⟩ := lamSC_of hL
  obtain ⟨tt, pt, st⟩ := (hr R E scope).val body hc
  have hul : us.length = ps.length := by rw [← rv.length, hvl]
  have KN : s.heap.NoLimit := e0.mod.nolimit.keeps fun b o e => (e0.bs b o e).1
  refine PySem.W.kla_callFunE room.depth of1 rfl l2 l3 rfl ⟨c', oc, wv, t, rfl, hoc, hdc, hvc⟩ ?_
  show wpAny _ _ (bindArgs (PySem.W.kla_fn "<lambda>" qual params body scope [] pm (.ref c') ctv) ⟨us, []⟩) _ _ _
  rw [(lam_bind hP hul).1]
  refine wpAny_pure (wpAny_newFunctionEnv (fun y hy => (l6 y hy).1) (fun y hy => l5 _ (List.of_mem_zip hy).1) (fun h₁ hns hsb => ⟨KN.fresh _ hsb, ?_⟩) l1)
  show codeAny _ _ (.expr body (lamE qual scope s.heap.objs.size f c')) _ _
  have kp : ∀ b o, s.heap.get? b = some o → h₁.get? b = some o := fun b o e => hsb.extBut b o (Nat.ne_of_lt (Heap.lt_size e)) (Heap.get?_push_of_some _ e)
  have J := lam_start (W := W) (qual := qual) (E := E) (f := f) (c' := c') (tk := s.toks + (ps.zip us).length) hL e0 room.hd rv hvl hns kp
  have hX : XOk W (lamSc ps scope) k E (lamC W ps qual scope A outer s H E f c') := XOk.lamC hL (room.deeper _)
  have hdl : ds.length = ps.length := by rw [← rs.length]; exact hvl
  have p : PostE W R E .c F H Q (if ds.length = ps.length then ev g (startD ps.length ds) r else .stuck) := p
  rw [if_pos hdl] at p
  have q := st.toC (noB_ne nb) H F H (L2.start ps vs) (startD ps.length ds) r Q G (startP_ok rs hvl) p
  refine PySem.W.kla_codeExpr (wpAny_mono ((pt _ hX).run [] _ _ H Q J q) (fun v s' hq => ?_) fun e s' hq => hq)
  obtain ⟨w', H', J', rv', q'⟩ := hq
  exact ⟨w', H', J'.os, J'.bare, J'.base, J'.hok, rv', q'⟩
/-- x(..), x a name that holds a lambda -/
def tLc (W : Wd) (k : Nat) (i : Nat) (fv : Nat → List D → Fn) (E : XK) (t : TA) : TE := fun σ H Q => (∃ f n ps g, σ[i]? = some (some (.ref f)) ∧ W.lams n = some (ps, g) ∧ LamAt ps g f H ∧ t σ H fun vs H1 => LamAt ps g f H1 ∧ spOf W ps.length (fv n []) vs H1 Q E) ∨
  ∃ f n m, σ[i]? = some (some (.ref f)) ∧ (∃ fd ps, ps.length = m ∧ PySem.W.keepIn W.K (.ref f) = true ∧ Binds W.K fd ps [] ∧ FnOk W.P W.w W.K W.mg W.base (L2.CX W.P W.w) k f fd ps (spOf W ps.length (fv n []))) ∧ t σ H fun vs H1 => spOf W m (fv n []) (vs ++ []) H1 Q E
theorem LamAt.mono {ps : List Str} {g : E} {f : Addr} (h : LamAt ps g f F) (l : Le F H) : LamAt ps g f H := let ⟨c', q, a, b⟩ := h; ⟨c', q, l _ _ a, l _ _ b⟩
theorem LamAt.fn {ps : List Str} {g : E} {f : Addr} {pins : List (Addr × Obj)} {σ : L2.St} {s : Shared} (h : LamAt ps g f H) (I : Inv X pins σ H s) : PySem.W.FnAt f s.heap := by
  obtain ⟨c', q, a, b⟩ := h
  obtain ⟨⟨params, body, scope, pm, ctv, of1, _⟩, _, _⟩ := I.hok f _ a
  exact ⟨_, _, _, _, of1⟩
theorem rd_lcall (wok : WOk W) (hk : 0 < k) {i : Nat} {fv : Nat → List D → Fn} {es : E} (nb : noBs es) (hl : ∀ n, (W.lams n).isSome = true → LamS W k n (fv n [])) (hd : ∀ n x, W.dfs n = some x → FnS W k x (fv n [])) (h : Rd W R Ex k c es) : Rd W R Ex k c (.lcall i fv es) := by
  have key : ∀ x, chk (.lcall i fv es) c (.e x) = true → ∃ z p a as pos, x = .Call (.Name z p) (a :: as) [] pos ∧ visB c z i = true ∧ chk es c (.es (a :: as)) = true := by
    intro x h
    cases x <;> try (exact (Bool.false_ne_true h).elim)
    rename_i f args kws pos
    cases f <;> try (exact (Bool.false_ne_true h).elim)
    rename_i y p
    cases args <;> try (exact (Bool.false_ne_true h).elim)
    rename_i a as
    cases kws <;> try (exact (Bool.false_ne_true h).elim)
    obtain ⟨h1, h2⟩ := ba (show (visB c y i && chk es c (.es (a :: as))) = true from h)
    exact ⟨y, p, a, as, pos, rfl, h1, h2⟩
  refine .plain (fun _ => rfl) rfl (fun x h => by obtain ⟨z, p, a, as, pos, rfl, _⟩ := key x h; rfl) fun x hc => ?_
  obtain ⟨z, p, a, as, pos, rfl, h1, h2⟩ := key x hc
  obtain ⟨t, pa, _, sa, _⟩ := h.arg _ h2
  have hst := chk_star h2
  obtain ⟨hs1, hs2⟩ := ba (show (notStar a && as.all notStar) = true from hst)
  refine ⟨tLc W k i fv Ex t, fun X hX => ⟨fun pins s σ H Q I h => ?_⟩, fun H0 F H σV σ r Q G S p => ?_⟩
  · obtain ⟨n1, n2, n3⟩ := visB_of h1 hX
    rcases h with ⟨f, n, ps, g, hs, hn, la, ht⟩ | ⟨f, n, m, hs, ⟨fd, ps, rfl, e2, e3, e4⟩, ht⟩
    rotate_left
    · have F : FnOk X.prog X.w X.K X.mg X.base (L2.CX W.P W.w) k f fd ps (spOf W ps.length (fv n [])) := by rw [hX.prog, hX.w, hX.K, hX.mg, hX.base]; exact e4
      exact (pe_callL (i := i) (dvs := []) (E := Ex) F (hX.room hk) n1 n2 (by rw [hX.K]; exact e2) (by rw [hX.K]; exact e3) .nil (passes_ok hX) (pa X hX) (not_debug n3).1 (not_debug n3).2.1 (starEach_of hs1) (back_of hs2)).run pins s σ H Q I ⟨hs, ht⟩
    refine wpAny_Call_Name_kw (thn ((pe_var (pos := p) n1 n2 (not_debug n3).1 (not_debug n3).2.1).run pins s σ H (fun v H1 => v = .ref f ∧ H1 = H) I ⟨.ref f, hs, rfl, rfl⟩) fun u s1 ⟨v, H1, I1, r1, q1⟩ => ?_)
    obtain ⟨rfl, rfl⟩ := q1
    cases r1
    refine PySem.W.callWith_F (first := []) (la.fn I1) (thn ((pa X hX).run pos pins s1 σ _ _ I1 ht) fun us s2 ⟨vs, H2, I2, r, la2, sp⟩ => ⟨la2.fn I2, ?_⟩) (starEach_of hs1) (back_of hs2)
    have rc := (hl n (by rw [hn]; rfl) ps g hn).2 X.A X.stack s2 H2 f us vs Q Ex (hX.room hk) (by have e0 := I2.env0; rw [hX.prog, hX.w, hX.K, hX.mg, hX.base] at e0; exact e0) la2 r sp
    rw [← hX.prog, ← hX.w] at rc
    refine wpAny_call (codeAny_mono rc fun r s' hq => ?_)
    cases r with
    | error e => exact passes_ok hX pins σ H2 s2 e s' I2 (by rw [hX.prog, hX.w] at hq; exact hq)
    | ok fl =>
      cases fl with
      | ret u => exact I2.after hq
      | next => exact False.elim hq
      | brk => exact False.elim hq
      | cont => exact False.elim hq
  · have p : PostE W R Ex .c F H Q (match σ[i]? with
      | some (.val (.fnv n [])) => (ev es σ r).bind fun l r => (match l with
        | .tup ds => fv n [] ds r
        | _ => .stuck)
      | _ => .stuck) := p
    cases e : σ[i]? with
    | none => rw [e] at p; exact p.elim
    | some s =>
      rw [e] at p
      cases s with
      | val d =>
        cases d with
        | fnv n caps =>
          cases caps with
          | cons _ _ => exact p.elim
          | nil =>
          obtain ⟨v, e1, rv⟩ := S.at_ i _ e
          cases rv with
          | fnv hf hcs =>
            obtain ⟨rfl, hf2⟩ := (wok.fo _ _ _ _).mp hf
            cases hcs
            rcases hf2 with ⟨ps, g, f, hn, rfl, la⟩ | ⟨y, f, hn, hm, rfl⟩
            · refine .inl ⟨f, n, ps, g, join_some e1, hn, la.mono G.le, ?_⟩
              refine (sa nb).then_ G S (Post := PostE W R Ex .c F H Q) PostE.s PostE.x p (fun d r' hd => ?_) fun ds r1 vs F1 H1 G1 g1 S1 p1 q1 => ?_
              · cases d <;> first | exact fun z => z | exact absurd ⟨_, rfl⟩ hd
              · refine ⟨(la.mono g1.le).mono G1.le, ?_, R, F1, r1, ds, G1, p1.reps, PostE.grow g1 q1⟩
                rw [p1.length]
                exact Classical.byContradiction fun z => by
                  have q2 : PostE W R Ex .c F H Q (fv n [] ds r1) := q1
                  rw [(hl n (by rw [hn]; rfl) ps g hn).1 ds r1 z] at q2; exact q2
            · obtain ⟨f', fd, ps, e2, e3, e4, e5, e6⟩ := (hd n y hn).ex
              rw [hm] at e2
              cases e2
              refine .inr ⟨f, n, ps.length, join_some e1, ⟨fd, ps, rfl, e3, e4, e5⟩, ?_⟩
              refine (sa nb).then_ G S (Post := PostE W R Ex .c F H Q) PostE.s PostE.x p (fun d r' hd => ?_) fun ds r1 vs F1 H1 G1 g1 S1 p1 q1 => ?_
              · cases d <;> first | exact fun z => z | exact absurd ⟨_, rfl⟩ hd
              · rw [List.append_nil]
                refine ⟨?_, R, F1, r1, ds, G1, p1.reps, PostE.grow g1 q1⟩
                rw [p1.length]
                exact Classical.byContradiction fun z => by
                  have q2 : PostE W R Ex .c F H Q (fv n [] ds r1) := q1
                  rw [e6 ds r1 z] at q2; exact q2
        | _ => exact p.elim
      | _ => exact p.elim
end
end DI
set_option Elab.async false
set_option linter.all false
set_option maxRecDepth 100000
/-! Srm: lambdas without captured names: made. -/
namespace DI
open PySem PySem.Spec PyProof.Rows
open L2 hiding ixN
section
variable {W : Wd} {R : Addr} {Ex : XK} {b : Bool} {k : Nat} {c : SC} {q : Kd} {F H F' H' F1 H1 H0 : Hp} {v : V} {d : D} {X : Cx} {e : E}
/-- what a heap is behind the making of a lambda at f with the code object at c' -/
structure Made (W : Wd) (H H2 : Hp) (ps : List Str) (g : E) (f c' : Addr) (qual : Str) : Prop where
  old : ∀ b o, H b = some o → ¬ IsTbl o → H2 b = some o
  tbl : ∀ b o, H b = some o → IsTbl o → ∃ o', H2 b = some o' ∧ IsTbl o'
  tabs : LamX.Tabs W.T H2
  nf : H f = none
  hf : H2 f = some (LamO ps g qual f c')
  hc : H2 c' = some (LamX.CodeO c' qual)
  ne : f ≠ c'
  new : ∀ b o, H2 b = some o → b = f ∨ b = c' ∨ H b ≠ none
def tLam (W : Wd) (ps : List Str) (g : E) : TE := fun _ H Q => LamX.Tabs W.T H ∧ ∀ f c' qual H2, Made W H H2 ps g f c' qual → Q (.ref f) H2
theorem lamO_new {P : Program} {w : World} {Hx : Hp} {h : Heap} {ps : List Str} {g : E} {qual : Str} {f c' : Addr} {params : Arguments} {body : Expr} {scope : Scope} {pm ctv : Value} (e : h.get? f = some (PySem.W.kla_obj "<lambda>" qual params body scope [] pm c' ctv))
    (h1 : lamSC ps scope = true) (h2 : paramsB params ps = true) (h3 : chk g (lamSc ps scope) (.e body) = true) : ObjOk P w Hx h f (LamO ps g qual f c') :=
  ⟨⟨params, body, scope, pm, ctv, e, h1, h2, h3⟩, ⟨_, e⟩, fun h1 h2 ⟨a, b, c, d, e, f, g⟩ k => ⟨a, b, c, d, e, k _ f, g⟩⟩
theorem pe_lam {ps : List Str} {g : E} {pa : Arguments} {body : Expr} {scope : Scope} {pos : Pos} (hX : XOk W c k Ex X) (hlam : c.lam = true) (hL : lamSC ps scope = true) (hP : paramsB pa ps = true) (hc : chk g (lamSc ps scope) (.e body) = true) : PE X (.Lambda pa body scope pos) (tLam W ps g) := by
  refine ⟨fun pins s σ H Q I h => ?_⟩
  obtain ⟨hT, h⟩ := h
  obtain ⟨hq, cc, P, hcode, TB, hm, hu⟩ := hX.lm hlam
  rw [← hX.base, ← hX.mg] at TB
  obtain ⟨l1, l2, l3, l4, l5, l6⟩ := lamSC_of hL
  obtain ⟨qs, hPt, ht, ha⟩ := hT _ hm
  have hdef : ∀ env, defaultsOf pa env = ([], []) := (lam_bind (us := ps.map fun _ => Value.none) hP (by simp) (qual := "") (body := body) (sc := scope) (cl := []) (pm := .none) (cv := .none) (ctv := .none)).2
  have hfree : ∀ y ∈ scope.names, y.2 = .free → ∃ c, X.env.cells.lookup y.1 = some c := fun y hy z => absurd z (l6 y hy).2
  have hclo : cloFrom X.env.cells scope.names [] = [] := by
    have : ∀ (l : List (Str × NameKind)), (∀ y ∈ l, y.2 ≠ .free) → cloFrom X.env.cells l [] = [] := by
      intro l hl
      induction l with
      | nil => rfl
      | cons y l ih =>
        obtain ⟨n, k⟩ := y
        have hk : (k == NameKind.free) = false := by simpa using hl (n, k) (List.mem_cons_self ..)
        show (if k == .free then _ else cloFrom X.env.cells l []) = []
        rw [hk]
        exact ih fun y hy => hl y (List.mem_cons_of_mem _ hy)
    exact this _ fun y hy => (l6 y hy).2
  refine PySem.W.kla_eval (hdef _) ?_
  have bP : s.heap.BuiltinsAt X.mg P := TB.bm.keeps I.bk
  have hP' : s.heap.get? P = some { cls := .none, data := .fields qs } := I.hok P _ hPt
  have hclos := closure_ok (env := X.env) hfree
  rw [hclo] at hclos
  rw [← hq] at hu
  rw [show X.env.qual ++ "<lambda>" = X.env.qual ++ "<lambda>" from rfl]
  cases hca : codeAmong pos qs.toList with
  | none =>
    refine PySem.W.kla_makeFunction (mg := X.mg) (c := cc) (P := P) (ps := qs) hclos I.ok.glob (I.mod.glob.keeps I.bk) hcode (TB.code.keeps I.bk) hP' ht hca TB.gP bP fun c' ctv h' tk hx hge hlt hrec htb => ?_
    obtain ⟨c2, oc, vs, t, e2, hoc, hd, hv⟩ := hrec
    cases e2
    have hsz : s.heap.objs.size ≤ h'.objs.size := Nat.le_trans hge (Nat.le_of_lt hlt)
    have nC : H c' = none := I.hok.fresh hge
    have I1 := LamX.inv_table (t' := tk) (q := X.env.qual ++ "<lambda>") (more := #[rawInt pos.line, rawInt pos.col, .ref c']) (h' := h') I hPt (fun b o hb e => hx b o hb e) htb hge ⟨oc, vs, t, hoc, hd, hv⟩
    have hfn : H h'.objs.size = none := I.hok.fresh hsz
    have n1 : h'.objs.size ≠ c' := Nat.ne_of_gt hlt
    have n2 : h'.objs.size ≠ P := Nat.ne_of_gt (Nat.lt_of_lt_of_le (Heap.lt_size hP') hsz)
    have nPc : P ≠ c' := ne_of_none hPt nC
    have I2 : Inv X pins σ (upd (upd (upd H P (.tbl (qs ++ #[rawInt pos.line, rawInt pos.col, .ref c']))) c' (LamX.CodeO c' (X.env.qual ++ "<lambda>"))) h'.objs.size (LamO ps g (X.env.qual ++ "<lambda>") h'.objs.size c'))
        { s with heap := h'.push (PySem.W.kla_obj "<lambda>" (X.env.qual ++ "<lambda>") pa body scope [] ((X.mg "__name__").getD .none) c' ctv), toks := tk } :=
      I1.laid (t' := tk) (fun b o e => Heap.get?_push_of_some _ e) (Nat.le_refl _) (lamO_new (Heap.get?_push_size _ rfl) hL hP hc)
    have eL : (qs ++ #[rawInt pos.line, rawInt pos.col, .ref c']).toList = qs.toList ++ [rawInt pos.line, rawInt pos.col, .ref c'] := by simp
    have at1 : ∀ b o, H b = some o → b ≠ P → upd (upd (upd H P (.tbl (qs ++ #[rawInt pos.line, rawInt pos.col, .ref c']))) c' (LamX.CodeO c' (X.env.qual ++ "<lambda>"))) h'.objs.size (LamO ps g (X.env.qual ++ "<lambda>") h'.objs.size c') b = some o := fun b o e hb => by
      rw [upd_ne (ne_of_none e hfn), upd_ne (ne_of_none e nC), upd_ne hb]; exact e
    have hE : ∀ b o, H b = some o → ¬ IsTbl o → upd (upd (upd H P (.tbl (qs ++ #[rawInt pos.line, rawInt pos.col, .ref c']))) c' (LamX.CodeO c' (X.env.qual ++ "<lambda>"))) h'.objs.size (LamO ps g (X.env.qual ++ "<lambda>") h'.objs.size c') b = some o := fun b o e n =>
      at1 b o e fun z => n ⟨qs, Option.some.inj (e.symm.trans (by rw [z]; exact hPt))⟩
    have hPat : upd (upd (upd H P (.tbl (qs ++ #[rawInt pos.line, rawInt pos.col, .ref c']))) c' (LamX.CodeO c' (X.env.qual ++ "<lambda>"))) h'.objs.size (LamO ps g (X.env.qual ++ "<lambda>") h'.objs.size c') P = some (.tbl (qs ++ #[rawInt pos.line, rawInt pos.col, .ref c'])) := by
      rw [upd_ne n2.symm, upd_ne nPc, upd_same]
    refine ⟨.ref h'.objs.size, _, I2, rfl, h _ c' (X.env.qual ++ "<lambda>") _ ⟨hE, fun b o e t => ?_, fun p hp => ?_, hfn, upd_same, by rw [upd_ne n1.symm, upd_same], n1, fun b o e => ?_⟩⟩
    · by_cases hb : b = P
      · rw [hb]; exact ⟨_, hPat, _, rfl⟩
      · exact ⟨o, at1 b o e hb, t⟩
    · by_cases hb : p.1 = P
      · rw [hu p hp hb, hb]
        refine ⟨_, hPat, by rw [eL]; exact PySem.TriplesOk_snoc _ _ _ _ ht, fun p' cv hcv => ?_⟩
        rw [eL] at hcv
        rcases LamX.among_app _ ht hcv with z | z
        · obtain ⟨c0, e1, e2⟩ := ha p' cv z
          rw [← hq] at e2
          exact ⟨c0, e1, hE _ _ e2 (fun ⟨_, z⟩ => LamX.codeO_ne _ z)⟩
        · exact ⟨c', z, by rw [upd_ne n1.symm, upd_same]⟩
      · obtain ⟨ps', a1, a2, a3⟩ := hT p hp
        refine ⟨ps', at1 _ _ a1 hb, a2, fun p' cv hcv => ?_⟩
        obtain ⟨c0, e1, e2⟩ := a3 p' cv hcv
        exact ⟨c0, e1, hE _ _ e2 (fun ⟨_, z⟩ => LamX.codeO_ne _ z)⟩
    · by_cases z1 : b = h'.objs.size
      · exact .inl z1
      · by_cases z2 : b = c'
        · exact .inr (.inl z2)
        · right; right
          rw [upd_ne z1, upd_ne z2] at e
          by_cases z3 : b = P
          · rw [z3, hPt]; simp
          · rw [upd_ne z3] at e; rw [e]; simp
  | some cv =>
    obtain ⟨c', e, hco⟩ := ha pos cv hca
    subst e
    rw [← hq] at hco
    refine PySem.W.kla_makeFunctionHit (mg := X.mg) (c := cc) (P := P) (ps := qs) hclos I.ok.glob (I.mod.glob.keeps I.bk) hcode (TB.code.keeps I.bk) hP' ht hca bP fun ctv h' tk hx hsz => ?_
    have hfn : H h'.objs.size = none := I.hok.fresh hsz
    have I1 : Inv X pins σ H { s with heap := h', toks := tk } := I.kept fun b o e => hx b o e
    have I2 : Inv X pins σ (upd H h'.objs.size (LamO ps g (X.env.qual ++ "<lambda>") h'.objs.size c')) { s with heap := h'.push (PySem.W.kla_obj "<lambda>" (X.env.qual ++ "<lambda>") pa body scope [] ((X.mg "__name__").getD .none) c' ctv), toks := tk } :=
      I1.laid (t' := tk) (fun b o e => Heap.get?_push_of_some _ e) (Nat.le_refl _) (lamO_new (Heap.get?_push_size _ rfl) hL hP hc)
    have le : ∀ b o, H b = some o → upd H h'.objs.size (LamO ps g (X.env.qual ++ "<lambda>") h'.objs.size c') b = some o := fun b o e => by rw [upd_ne (ne_of_none e hfn)]; exact e
    exact ⟨.ref h'.objs.size, _, I2, rfl, h _ c' (X.env.qual ++ "<lambda>") _ ⟨fun b o e _ => le b o e, fun b o e t => ⟨o, le b o e, t⟩, hT.ext le, hfn, upd_same, le _ _ hco, fun z => by (rw [z, hco] at hfn; cases hfn), fun b o e => by
      by_cases z1 : b = h'.objs.size
      · exact .inl z1
      · right; right
        rw [upd_ne z1] at e; rw [e]; simp⟩⟩
theorem rd_lam (wok : WOk W) {n : Nat} {ps : List Str} {g : E} (hl : W.lams n = some (ps, g)) : Rd W R Ex k c (.lam n ps g) := by
  refine .plain (fun _ => rfl) rfl (fun x h => by cases x <;> first | rfl | exact (Bool.false_ne_true h).elim) fun x h => ?_
  cases x <;> try (exact (Bool.false_ne_true h).elim)
  rename_i pa body sc' pos
  obtain ⟨h1, h⟩ := ba (show (c.lam && (lamSC ps sc' && (paramsB pa ps && chk g (lamSc ps sc') (.e body)))) = true from h)
  obtain ⟨h2, h⟩ := ba h
  obtain ⟨h3, h4⟩ := ba h
  refine ⟨tLam W ps g, fun X hX => pe_lam hX h1 h2 h3 h4, fun H0 F H σV σ r Q G S p => ⟨G.tabs, fun f c' qual H2 M => ?_⟩⟩
  have p : PostE W R Ex .c F H Q (.ok (.fnv n []) r) := p
  have nF : F f = none := G.fNone M.nf
  obtain ⟨a, e1, e2⟩ := G.row
  have fR : f ≠ R := fun z => by rw [← z, M.nf] at e1; cases e1
  have cR : c' ≠ R := fun z => by
    have := M.old _ _ e1 nt_lst
    rw [← z, M.hc] at this
    cases this
  have at_ : ∀ b, b ≠ f → b ≠ c' → upd (upd F f (LamO ps g qual f c')) c' (LamX.CodeO c' qual) b = F b := fun b h1 h2 => by rw [upd_ne h2, upd_ne h1]
  have atf : upd (upd F f (LamO ps g qual f c')) c' (LamX.CodeO c' qual) f = some (LamO ps g qual f c') := by rw [upd_ne M.ne, upd_same]
  have atc : upd (upd F f (LamO ps g qual f c')) c' (LamX.CodeO c' qual) c' = some (LamX.CodeO c' qual) := upd_same
  have nt_lam : ∀ {o : HO}, o = LamO ps g qual f c' → ¬ IsTbl o := fun {o} z ⟨_, t⟩ => by rw [z] at t; unfold LamO at t; cases t
  have nt_cod : ∀ {o : HO} {x q}, o = LamX.CodeO x q → ¬ IsTbl o := fun {o x q} z ⟨_, t⟩ => by rw [z] at t; exact LamX.codeO_ne _ t
  have same : ∀ b o, H b = some o → ∀ x q, H2 b = some (LamX.CodeO x q) → o = LamX.CodeO x q := fun b o e x q e' => by
    by_cases t : IsTbl o
    · obtain ⟨o', e3, t'⟩ := M.tbl b o e t
      rw [e3] at e'
      cases e'
      exact absurd t' (nt_cod rfl)
    · have := M.old b o e t
      rw [this] at e'
      exact Option.some.inj e'
  have le : Le F (upd (upd F f (LamO ps g qual f c')) c' (LamX.CodeO c' qual)) := fun b o e => by
    have hbf : b ≠ f := ne_of_none e nF
    by_cases hbc : b = c'
    · subst hbc
      rw [atc, same b o (G.le _ _ e) _ _ M.hc]
    · rw [at_ b hbf hbc]; exact e
  refine p (.ref f) (upd (upd F f (LamO ps g qual f c')) c' (LamX.CodeO c' qual)) H2 ⟨fun b o e => ?_, by rw [at_ R fR.symm cR.symm]; exact G.fR, fun b o e => ?_, ⟨a, M.old _ _ e1 nt_lst, le.sqL e2⟩, M.tabs, fun x q hx => ?_⟩ ⟨le, fun b o e => ?_, fun b q1 q2 => ?_⟩ ?_
  · by_cases hbc : b = c'
    · subst hbc; rw [atc] at e; rw [M.hc]; exact e
    · by_cases hbf : b = f
      · subst hbf; rw [atf] at e; rw [M.hf]; exact e
      · rw [at_ b hbf hbc] at e
        exact M.old _ _ (G.le _ _ e) (G.ft _ _ e)
  · by_cases hbc : b = c'
    · subst hbc; rw [atc] at e; exact nt_cod (Option.some.inj e).symm
    · by_cases hbf : b = f
      · subst hbf; rw [atf] at e; exact nt_lam (Option.some.inj e).symm
      · rw [at_ b hbf hbc] at e; exact G.ft _ _ e
  · by_cases hbc : x = c'
    · rw [hbc, atc]; simp
    · by_cases hbf : x = f
      · rw [hbf, atf]; simp
      · rw [at_ x hbf hbc]
        rcases M.new x _ hx with z | z | z
        · exact absurd z hbf
        · exact absurd z hbc
        · cases e : H x with
          | none => exact absurd e z
          | some o =>
            have := same x o e _ _ hx
            subst this
            exact G.cod x q e
  · by_cases t : IsTbl o
    · obtain ⟨o', e3, t'⟩ := M.tbl b o e t
      exact ⟨o', e3, fun _ n => absurd t n, fun _ => t'⟩
    · exact ⟨o, M.old b o e t, fun _ _ => rfl, fun z => absurd z t⟩
  · by_cases hbc : b = c'
    · subst hbc
      cases e : H b with
      | none => rfl
      | some o =>
        have := same b o e _ _ M.hc
        subst this
        exact absurd q1 (G.cod b qual e)
    · by_cases hbf : b = f
      · rw [hbf]; exact M.nf
      · rw [at_ b hbf hbc] at q2; exact absurd q1 q2
  · exact .fnv ((wok.fo _ _ _ _).mpr ⟨rfl, .inl ⟨ps, g, f, hl, rfl, c', qual, atf, atc⟩⟩) .nil
end
end DI
set_option Elab.async false
set_option linter.all false
set_option maxRecDepth 100000
/-! Srr: the row read. -/
namespace DI
open PySem PySem.Spec PyProof.Rows
open L2 hiding ixN
section
variable {W : Wd} {R : Addr} {Ex : XK} {b : Bool} {k : Nat} {c : SC} {q : Kd} {F H F' H' F1 H1 H0 : Hp} {v : V} {d : D} {X : Cx} {e : E}
theorem BB.row (h : BB W R F H v .row) : v = .ref R := by
  have := h.rep rfl
  cases this; rfl
theorem rd_rowi {a : E} {j : Nat} (ha : Rd W R Ex k c a) : Rd W R Ex k c (.rowi a j) := by
  refine .plain (fun _ => rfl) rfl (fun x h => by cases x <;> first | rfl | cases h) fun x h => ?_
  have key : ∃ y u v p1, x = .Subscript y (.Constant (.int (j : Int)) u v) p1 ∧ chk a c (.e y) = true := by
    cases x <;> try (exact (Bool.false_ne_true h).elim)
    rename_i y z pos
    cases z <;> try (exact (Bool.false_ne_true h).elim)
    rename_i z u v
    cases z <;> try (exact (Bool.false_ne_true h).elim)
    obtain ⟨h1, h2⟩ := ba h
    have := of_decide_eq_true h1
    subst this
    exact ⟨y, u, v, pos, rfl, h2⟩
  obtain ⟨y, u, v, p1, rfl, h2⟩ := key
  obtain ⟨ta, pa, sa⟩ := ha.val y h2
  refine ⟨tOp (rIxL W.K) ta (tC (.int j)), fun X hX => by rw [← hX.K]; exact pe_ix ix_list (pa X hX) pe_int (plainIx_of rfl), fun H0 F H σV σ r Q G S p => ?_⟩
  refine sa.then_ G S PostE.s PostE.x (show PostE W R Ex .n F H Q ((ev a σ r).bind (rowG j)) from p) fun dx r1 x F1 H1 G1 g1 S1 p1 q1 => ?_
  have q1 := q1.grow g1
  cases dx <;> try (exact q1.elim)
  have q1 : PostE W R Ex .n F1 H1 Q (.lift ((rowI r1 j).map .int) r1) := q1
  obtain ⟨d, e, q1⟩ := q1.lift_some
  obtain ⟨i, e, rfl⟩ := Option.map_eq_some_iff.mp e
  obtain rfl := p1.bb.row
  obtain ⟨aa, h1, h2⟩ := G1.row
  refine ⟨R, _, j, .int i, rfl, rfl, .of h1, ?_, q1.flat G1 (.int _) rfl⟩
  match j, e with
  | 1, e => cases e; rfl
  | 2, e => cases e; rfl
  | 3, e => cases e; rfl
theorem rd_rowix {a i : E} (ha : Rd W R Ex k c a) (hi : Rd W R Ex k c i) : Rd W R Ex k c (.rowix a i) := by
  have key : ∀ x, chk (.rowix a i) c (.e x) = true → ∃ y z u v p1 p2, x = .Subscript (.Subscript y (.Constant (.int 0) u v) p1) z p2 ∧ notSlice z = true ∧ chk a c (.e y) = true ∧ chk i c (.e z) = true := by
    intro x h
    cases x <;> try (exact (Bool.false_ne_true h).elim)
    rename_i y z pos
    cases y <;> try (exact (Bool.false_ne_true h).elim)
    rename_i y w pos'
    cases w <;> try (exact (Bool.false_ne_true h).elim)
    rename_i w u v
    cases w <;> try (exact (Bool.false_ne_true h).elim)
    rename_i w
    obtain ⟨h1, h2⟩ := ba (show (decide (w = 0) && (notSlice z && (chk a c (.e y) && chk i c (.e z)))) = true from h)
    obtain ⟨h2, h3⟩ := ba h2
    have := of_decide_eq_true h1
    subst this
    exact ⟨y, z, u, v, pos', pos, rfl, h2, (ba h3).1, (ba h3).2⟩
  refine .plain (fun _ => rfl) rfl (fun x h => by obtain ⟨y, z, u, v, p1, p2, rfl, _⟩ := key x h; rfl) fun x h => ?_
  obtain ⟨y, z, u, v, p1, p2, rfl, h0, h2, h3⟩ := key x h
  obtain ⟨ta, pa, sa⟩ := ha.val y h2
  obtain ⟨ti, pi, si⟩ := hi.val z h3
  refine ⟨tOp (rIxL W.K) (tOp (rIxL W.K) ta (tC (.int 0))) ti, fun X hX => by rw [← hX.K]; exact pe_ix ix_list (pe_ix ix_list (pa X hX) pe_int (plainIx_of rfl)) (pi X hX) (plainIx_of h0), fun H0 F H σV σ r Q G S p => ?_⟩
  have p : PostE W R Ex .n F H Q ((ev a σ r).bind fun x r => match x with
    | .row => (ev i σ r).bind (rowIx r.ns)
    | _ => .stuck) := p
  refine sa.then_ G S PostE.s PostE.x p fun dx r1 x F1 H1 G1 g1 S1 p1 q1 => ?_
  have q1 := q1.grow g1
  cases dx <;> try (exact q1.elim)
  have q1 : PostE W R Ex .n F1 H1 Q ((ev i σ r1).bind (rowIx r1.ns)) := q1
  obtain rfl := p1.bb.row
  obtain ⟨aa, h1, h2⟩ := G1.row
  refine ⟨R, _, 0, .ref aa, rfl, rfl, .of h1, rfl, ?_⟩
  refine si.then_ G1 S1 PostE.s PostE.x q1 fun dy r2 y F2 H2 G2 g2 S2 p2 q2 => ?_
  have q3 := q2.grow g2
  clear q2
  cases dy <;> try (exact q3.elim)
  rename_i m
  obtain rfl := p2.bb.int
  have q2 : PostE W R Ex .n F2 H2 Q (.lift ((ixN r1.ns.length m).bind fun m => (r1.ns[m]?).map .int) r2) := q3
  obtain ⟨d, e, q2⟩ := q2.lift_some
  obtain ⟨l, e1, e2⟩ := Option.bind_eq_some_iff.mp e
  obtain ⟨z, e7, rfl⟩ := Option.map_eq_some_iff.mp e2
  refine ⟨aa, r1.ns.map V.int, m, .int z, rfl, rfl, G2.le.sqL (g2.le.sqL h2), ?_, q2.flat G2 (.int _) rfl⟩
  unfold atI
  rw [List.length_map, ← ixN_eq, e1]
  show (r1.ns.map V.int)[l]? = _
  rw [List.getElem?_map, e7]
  rfl
theorem rd_rowlen (wok : WOk W) {a : E} (ha : Rd W R Ex k c a) : Rd W R Ex k c (.rowlen a) := by
  have key : ∀ x, chk (.rowlen a) c (.e x) = true → ∃ y u v p1 p2 p3, x = .Call (.Name "len" p2) [.Subscript y (.Constant (.int 0) u v) p1] [] p3 ∧ glB c "len" = true ∧ chk a c (.e y) = true := by
    intro x h
    cases x <;> try (exact (Bool.false_ne_true h).elim)
    rename_i f as kws p3
    cases f <;> try (exact (Bool.false_ne_true h).elim)
    rename_i z p2
    match as, kws, h with
    | [.Subscript y (.Constant (.int w) u v) p1], [], h =>
      obtain ⟨h1, h2⟩ := ba (show (decide (z = "len") && (glB c z && (decide (w = 0) && chk a c (.e y)))) = true from h)
      have := of_decide_eq_true h1
      subst this
      obtain ⟨h5, h6⟩ := ba h2
      obtain ⟨h7, h8⟩ := ba h6
      have := of_decide_eq_true h7
      subst this
      exact ⟨y, u, v, p1, p2, p3, rfl, h5, h8⟩
  refine .plain (fun _ => rfl) rfl (fun x h => by obtain ⟨y, u, v, p1, p2, p3, rfl, _⟩ := key x h; rfl) fun x h => ?_
  obtain ⟨y, u, v, p1, p2, p3, rfl, h1, h2⟩ := key x h
  obtain ⟨ta, pa, sa⟩ := ha.val y h2
  refine ⟨tCB (fun xs H Q => ∃ x n, xs = [x] ∧ LenV W.K x H n ∧ Q (.int n) H) (tCons (tOp (rIxL W.K) ta (tC (.int 0))) tNil), fun X hX => ?_, fun H0 F H σV σ r Q G S p => ?_⟩
  · obtain ⟨g1, g2⟩ := glB_of h1 hX
    have hm : X.mg "len" = none := by rw [hX.mg]; exact wok.free _ (by decide)
    rw [← hX.K]
    exact pe_callB call_len g1 hm (by with_unfolding_all rfl) (pa_cons (pe_ix ix_list (pa X hX) pe_int (plainIx_of rfl)) pa_nil (starEach_of rfl)) (ne_name g2) (not_debug g2).1 (starEach_of rfl) (back_of rfl)
  have p : PostE W R Ex .n F H Q ((ev a σ r).bind rowLen) := p
  refine sa.then_ G S PostE.s PostE.x p fun dx r1 x F1 H1 G1 g1 S1 p1 q1 => ?_
  have q1 := q1.grow g1
  cases dx <;> try (exact q1.elim)
  have q1 : PostE W R Ex .n F1 H1 Q (.ok (.int r1.ns.length) r1) := q1
  obtain rfl := p1.bb.row
  obtain ⟨aa, h1, h2⟩ := G1.row
  refine ⟨R, _, 0, .ref aa, rfl, rfl, .of h1, rfl, ?_⟩
  exact ⟨_, r1.ns.length, rfl, .inl ⟨_, G1.le.sqL h2, by rw [List.length_map]⟩, q1.flat G1 (.int _) rfl⟩
end
end DI
set_option Elab.async false
set_option linter.all false
set_option maxRecDepth 100000
/-! Xe: the exception in hand asked; x(lambda: ..). -/
namespace DI
open PySem PySem.Spec PyProof.Rows
open L2 hiding ixN
section
variable {W : Wd} {R : Addr} {Ex : XK} {b : Bool} {k : Nat} {c : SC} {q : Kd} {F H F' H' F1 H1 H0 : Hp} {v : V} {d : D} {X : Cx} {e : E}
theorem Good.ofM {T : List (Addr × Str)} {c' : Addr} {qual : Str} {r : Rho} (hT : T = W.T) (G : Good W R F H r) (M : Made3 T H H1 c' qual) : Good W R (upd F c' (LamX.CodeO c' qual)) H1 r ∧ Grow R F H (upd F c' (LamX.CodeO c' qual)) H1 := by
  subst hT
  obtain ⟨a, e1, e2⟩ := G.row
  have nt_cod : ∀ {o : HO} {x q}, o = LamX.CodeO x q → ¬ IsTbl o := fun {o x q} z ⟨_, t⟩ => by rw [z] at t; exact LamX.codeO_ne _ t
  have cR : c' ≠ R := fun z => by
    have := M.old _ _ e1 nt_lst
    rw [← z, M.hc] at this
    cases this
  have at_ : ∀ b, b ≠ c' → upd F c' (LamX.CodeO c' qual) b = F b := fun b h2 => by rw [upd_ne h2]
  have atc : upd F c' (LamX.CodeO c' qual) c' = some (LamX.CodeO c' qual) := upd_same
  have same : ∀ b o, H b = some o → ∀ x q, H1 b = some (LamX.CodeO x q) → o = LamX.CodeO x q := fun b o e x q e' => by
    by_cases t : IsTbl o
    · obtain ⟨o', e3, t'⟩ := M.tbl b o e t
      rw [e3] at e'
      cases e'
      exact absurd t' (nt_cod rfl)
    · have := M.old b o e t
      rw [this] at e'
      exact Option.some.inj e'
  have le : Le F (upd F c' (LamX.CodeO c' qual)) := fun b o e => by
    by_cases hbc : b = c'
    · subst hbc
      rw [atc, same b o (G.le _ _ e) _ _ M.hc]
    · rw [at_ b hbc]; exact e
  refine ⟨⟨fun b o e => ?_, by rw [at_ R cR.symm]; exact G.fR, fun b o e => ?_, ⟨a, M.old _ _ e1 nt_lst, le.sqL e2⟩, M.tabs, fun x q hx => ?_⟩, ⟨le, fun b o e => ?_, fun b q1 q2 => ?_⟩⟩
  · by_cases hbc : b = c'
    · subst hbc; rw [atc] at e; rw [M.hc]; exact e
    · rw [at_ b hbc] at e
      exact M.old _ _ (G.le _ _ e) (G.ft _ _ e)
  · by_cases hbc : b = c'
    · subst hbc; rw [atc] at e; exact nt_cod (Option.some.inj e).symm
    · rw [at_ b hbc] at e; exact G.ft _ _ e
  · by_cases hbc : x = c'
    · rw [hbc, atc]; simp
    · rw [at_ x hbc]
      rcases M.new x _ hx with z | z
      · exact absurd z hbc
      · cases e : H x with
        | none => exact absurd e z
        | some o =>
          have := same x o e _ _ hx
          subst this
          exact G.cod x q e
  · by_cases t : IsTbl o
    · obtain ⟨o', e3, t'⟩ := M.tbl b o e t
      exact ⟨o', e3, fun _ n => absurd t n, fun _ => t'⟩
    · exact ⟨o, M.old b o e t, fun _ _ => rfl, fun z => absurd z t⟩
  · by_cases hbc : b = c'
    · subst hbc
      cases e : H b with
      | none => rfl
      | some o =>
        have := same b o e _ _ M.hc
        subst this
        exact absurd q1 (G.cod b qual e)
    · rw [at_ b hbc] at q2; exact absurd q1 q2
theorem PostE.tup_c {ds : List DI.D} {r : Rho} {Q : VK} {E' : XK} (h : PostE W R Ex .n F H Q (.ok (.tup ds) r)) : PostE W R E' .c F H Q (.ok (.tup ds) r) := fun v F' H' G g rv => h v F' H' G g (.inl ⟨rv, rfl⟩)
theorem told_okS : okS "told" := ⟨by rw [sizeLine_eq]; decide, by decide +kernel⟩
theorem told_bind {params : Arguments} {body : Expr} {scope : Scope} (h : paramsT params = true) : (∀ env, defaultsOf params env = ([], [])) ∧ ∀ (q : Str) (cl : List (Str × Addr)) (pm cv ctv : Value), bindArgs (PySem.W.kla_fn "<lambda>" q params body scope cl pm cv ctv) ⟨[], []⟩ = pure [] := by
  unfold paramsT at h
  split at h
  · exact ⟨fun _ => rfl, fun _ _ _ _ _ => by kernel_rfl⟩
  · cases h
theorem XOk.toldC {A : Around} {outer : List Env} {s : Shared} {H : Hp} {E : XK} {scope : Scope} {f c' : Addr} {j : Nat} (hX : XOk W c k Ex X) (hr : Room j (A.deeper (LamX.lamEnv X scope s.heap.objs.size f c'))) :
    XOk W (toldSc c scope) j E (LamX.lamCx X A outer s H E scope f c') where
  prog := hX.prog
  w := hX.w
  K := hX.K
  mg := hX.mg
  base := hX.base
  N := hX.N
  sc := rfl
  fn := rfl
  nd := hX.nd
  calm := fun _ => rfl
  room := fun _ => hr
  un0 := by
    have := hr.un
    show (A.deeper (LamX.lamEnv X scope s.heap.objs.size f c')).units + 65 < cLine
    omega
  gd := fun z => nomatch z
  lcx := fun z => nomatch z
  hot := fun z => nomatch z
  tk := takes_of rfl rfl rfl rfl
  lm := fun z => nomatch z
theorem rd_told (wok : WOk W) {x : Str} {ns : List (Nat × Str)} {e : E} (ts : ToldS W k x ns) (nb : noB e) (hb : ∀ E c', Rd W R E (k - 2) c' e) : Rd W R Ex k c (.told x ns e) := by
  have key : ∀ y, chk (.told x ns e) c (.e y) = true → ∃ p pa z sc' lp pos, y = .Call (.Name x p) [.Lambda pa z sc' lp] [] pos ∧ c.lam = true ∧ glB c x = true ∧ paramsT pa = true ∧ LamX.lamSB c.sc sc' = true ∧ chk e (toldSc c sc') (.e z) = true := by
    intro y h
    cases y <;> try (exact (Bool.false_ne_true h).elim)
    rename_i f args kws pos
    cases f <;> try (exact (Bool.false_ne_true h).elim)
    rename_i y p
    cases args with
    | nil => exact (Bool.false_ne_true h).elim
    | cons a as =>
    cases as with
    | cons _ _ => cases a <;> exact (Bool.false_ne_true h).elim
    | nil =>
    cases a <;> try (exact (Bool.false_ne_true h).elim)
    rename_i pa z sc' lp
    cases kws with
    | cons _ _ => exact (Bool.false_ne_true h).elim
    | nil =>
    obtain ⟨h1, h2⟩ := ba (show (c.lam && (decide (x = y) && (glB c y && (paramsT pa && (LamX.lamSB c.sc sc' && chk e (toldSc c sc') (.e z)))))) = true from h)
    obtain ⟨h2, h3⟩ := ba h2
    obtain ⟨h3, h4⟩ := ba h3
    obtain ⟨h4, h5⟩ := ba h4
    have := of_decide_eq_true h2
    subst this
    exact ⟨p, pa, z, sc', lp, pos, rfl, h1, h3, h4, ba h5⟩
  refine .plain (fun _ => rfl) rfl (fun y h => by obtain ⟨p, pa, z, sc', lp, pos, rfl, _⟩ := key y h; rfl) fun y hc => ?_
  obtain ⟨p, pa, z, sc', lp, pos, rfl, hlam, hg, hpa, hL, hz⟩ := key y hc
  obtain ⟨j, g, a, pg, bg, sg, dV, kV, doc, pm, cdv, ct, oc, an, od, osl, Ng, hk, hm, hkp, lk, hcg, hbd, Sg, hNg, hva, ha1, ha2, hG⟩ := ts.ex
  have hj : k - 2 = j := by omega
  rw [hj] at hb
  obtain ⟨b1, b2⟩ := told_bind (body := z) (scope := sc') hpa
  let tt : XK → TE := fun E => ((hb E (toldSc c sc')).val z hz).choose
  have tt1 : ∀ E X, XOk W (toldSc c sc') j E X → PE X z (tt E) := fun E => ((hb E (toldSc c sc')).val z hz).choose_spec.1
  have tt2 : ∀ E, Sat W R E (kd e) (tt E) (ev e) := fun E => ((hb E (toldSc c sc')).val z hz).choose_spec.2
  refine ⟨tTell W.T (c.qual ++ "<lambda>") (TTold W ns) tt, fun X hX => ?_, fun H0 F H σV σ r Q G S p => ⟨G.tabs, fun c' H1 M => ?_⟩⟩
  · obtain ⟨hq, cc, P, hcode, TB, hmT, hu⟩ := hX.lm hlam
    obtain ⟨g1, g2⟩ := glB_of hg hX
    have hr : Room (j + 2) X.A := by rw [← hk]; exact hX.room (by omega)
    rw [← hq]
    exact pe_tell g1 (by rw [hX.mg]; exact hm) (by rw [hX.K]; exact hkp) (by rw [hX.K]; exact lk) (by rw [hX.K]; exact hcg) (by rw [hX.K]; exact hbd) Sg hNg hva (hG X _ hX.prog hX.w hX.K hX.mg hX.base (hr.mono (by omega))) (by rw [hX.base, hX.mg]; exact TB) hcode (by rw [hq]; exact hmT) (by rw [hq]; exact hu) hr
      (LamX.lamS_by (by rw [hX.sc]; exact hL)) (b1 _) b2 (fun A outer s H E f c' hr2 => tt1 E _ (hX.toldC hr2)) (not_debug g2).1 ha1 ha2
  · obtain ⟨G1, g1⟩ := G.ofM rfl M
    refine ((tt2 _).toC (noB_ne nb)) H0 (upd F c' (LamX.CodeO c' (c.qual ++ "<lambda>"))) H1 σV σ r _ G1 (S.grow g1) ?_
    have p : PostE W R Ex .n F H Q (match ev e σ r with
      | .ok d r => .ok (.tup [.str "told", d]) r
      | .exc x r => .lift ((ns.lookup x.c).map fun n => .tup (.str n :: x.ds)) r
      | .stuck => .stuck) := p
    cases he : ev e σ r with
    | stuck => rw [he] at p; exact p.elim
    | ok d r' =>
      rw [he] at p
      intro v F' H' G' g' rv
      refine ⟨by show 2 ≤ sizeLine; rw [sizeLine_eq]; decide, fun u hu => ?_⟩
      obtain ⟨G2, g2⟩ := G'.tup_new (xs := [.str "told", v]) hu
      refine p (.ref u) _ _ G2 ((g1.trans g').trans g2) (.inl ⟨.tup (.inl (.inl upd_same)) ?_ (.cons (.str _ told_okS) (.cons (rv.mono g2.le) .nil)), rfl⟩)
      show 2 ≤ sizeLine
      rw [sizeLine_eq]; decide
    | exc x r' =>
      rw [he] at p
      have p : PostE W R Ex .n F H Q (.lift ((ns.lookup x.c).map fun n => .tup (.str n :: x.ds)) r') := p
      cases hn : ns.lookup x.c with
      | none => rw [hn] at p; exact p.elim
      | some n =>
        rw [hn] at p
        intro cls dd F' H' G' g' rx
        exact ⟨R, F', r', x, n, G', rx, hn, PostE.tup_c (PostE.grow (g1.trans g') p)⟩
end
end DI
set_option Elab.async false
set_option linter.all false
set_option maxRecDepth 100000
/-! Xf: isinstance of the exception in hand, its fields. -/
namespace DI
open PySem PySem.Spec PyProof.Rows
open L2 hiding ixN
section
variable {W : Wd} {R : Addr} {Ex : XK} {b : Bool} {k : Nat} {c : SC} {q : Kd} {F H F' H' F1 H1 H0 : Hp} {v : V} {d : D} {X : Cx} {e : E}
/-- the dict of the exception in hand -/
def DictP (W : Wd) (H : Hp) : Prop := ∃ dd fs, W.md = some dd ∧ H dd = some (.xd fs)
def rIsP (W : Wd) (v : V) (cv : Value) : List V → Hp → VK → Prop := fun xs H Q => xs = [.ref W.me, v] ∧ DictP W H ∧ ∃ cn b, W.mc = .ref (W.ca cn) ∧ ExcC W.K (W.ca cn) ∧ PySem.W.kitOne W.K (.ref (W.ca cn)) cv = some b ∧ Q (.bl b) H
/-- the exception in hand, in the heap -/
theorem XOk.inst (hX : XOk W c k Ex X) (hh : c.hot = true) {pins : List (Addr × Obj)} {s : Shared} {σ : L2.St} {D : Addr} (I : Inv X pins σ H s) (hd : DictP W H) (hc : W.mc = .ref D) : ∃ oe od, PySem.W.InstAt s.heap W.me oe D (some od) ∧ ∀ dd fs, W.md = some dd → H dd = some (.xd fs) → ∃ mA : Str → Option Value, (∀ f, PySem.W.lookIn f od = some (mA f)) ∧ ∀ f, RelO (fs.lookup f) (mA f) := by
  obtain ⟨oe, hp, hz, vs, hdat⟩ := hX.hot hh
  obtain ⟨dd, fs, e1, e2⟩ := hd
  obtain ⟨hget, _⟩ := I.pin (W.me, oe) (List.mem_append_left _ hp)
  have hx : ObjOk X.prog X.w H s.heap dd (.xd fs) := I.hok dd _ e2
  obtain ⟨mA, hns, hr⟩ := hx
  obtain ⟨od, ho, hl⟩ := lookIn_ns hns
  refine ⟨oe, od, ⟨hget, by rw [hz.1, hc], by unfold PySem.W.notCls; rw [hdat] <;> rfl, by rw [hz.2, e1]; exact ho⟩, fun d2 f2 z1 z2 => ?_⟩
  rw [e1] at z1
  cases z1
  rw [e2] at z2
  cases z2
  exact ⟨mA, hl, hr⟩
theorem call_isP (hX : XOk W c k Ex X) (hh : c.hot = true) {v : V} {cv : Value} (hv : ∀ u, RelV v u → u = cv) : CallR X (.builtin "isinstance") (rIsP W v cv) := by
  intro pins s σ H xs us Q I r h
  obtain ⟨rfl, hd, cn, b, hc, C, e, q⟩ := h
  cases r with
  | cons rx rr =>
    cases rr with
    | cons rt rr =>
      cases rr
      cases rx
      have ec := hv _ rt
      subst ec
      obtain ⟨oe, od, J, _⟩ := hX.inst hh I hd hc
      rw [← hX.K] at e
      have C : ExcC X.K (W.ca cn) := by rw [hX.K]; exact C
      exact PySem.W.kia_one (PySem.W.kitx_exc (by have := C.hd; unfold PySem.W.hasDictIn at this; cases z : PySem.W.clsIn X.K (W.ca cn) with | none => rw [z] at this; cases this | some _ => rfl) C.hg C.hk C.hs C.ha C.hn C.ht C.hm) I.kIn J e (fun z => nomatch z) fun tk => ⟨.bl b, H, I.kept (t' := tk) fun _ _ z => z, rfl, q⟩
theorem rd_isx (wok : WOk W) {i : Nat} {ks cs : List Nat} {y : Str} (h : IsS W ks cs y) : Rd W R Ex k c (.isx i ks cs y) := by
  have key : ∀ z, chk (.isx i ks cs y) c (.e z) = true → ∃ p x p1 p2 pos, z = .Call (.Name "isinstance" p) [.Name x p1, .Name y p2] [] pos ∧ c.hot = true ∧ glB c "isinstance" = true ∧ visB c x i = true ∧ glB c y = true := by
    intro z h
    cases z <;> try (exact (Bool.false_ne_true h).elim)
    rename_i f args kws pos
    cases f <;> try (exact (Bool.false_ne_true h).elim)
    rename_i z p
    cases args with
    | nil => exact (Bool.false_ne_true h).elim
    | cons a as =>
    cases a <;> try (exact (Bool.false_ne_true h).elim)
    rename_i x p1
    cases as with
    | nil => exact (Bool.false_ne_true h).elim
    | cons a as =>
    cases a <;> try (exact (Bool.false_ne_true h).elim)
    rename_i y' p2
    cases as with
    | cons _ _ => exact (Bool.false_ne_true h).elim
    | nil =>
    cases kws with
    | cons _ _ => exact (Bool.false_ne_true h).elim
    | nil =>
    obtain ⟨h1, h2⟩ := ba (show (c.hot && (decide (z = ("isinstance" : Str)) && (glB c z && (visB c x i && (decide (y = y') && glB c y))))) = true from h)
    obtain ⟨h2, h3⟩ := ba h2
    obtain ⟨q3, h4⟩ := ba h3
    obtain ⟨q4, h5⟩ := ba h4
    obtain ⟨q5, h6⟩ := ba h5
    have h2 := of_decide_eq_true h2
    have q5 := of_decide_eq_true q5
    subst h2 q5
    exact ⟨p, x, p1, p2, pos, rfl, h1, q3, q4, h6⟩
  refine .plain (fun _ => rfl) rfl (fun z h => by obtain ⟨p, x, p1, p2, pos, rfl, _⟩ := key z h; rfl) fun z hc => ?_
  obtain ⟨p, x, p1, p2, pos, rfl, hh, h1, h2, h3⟩ := key z hc
  obtain ⟨cv, hcv, ⟨v, rv, hv⟩, hks⟩ := h
  have hboot : bootBuiltins ("isinstance" : Str) = some (.builtin "isinstance") := by with_unfolding_all rfl
  refine ⟨tCB (rIsP W v cv) (tCons (tVar i) (tCons (tC v) tNil)), fun X hX => ?_, fun H0 F H σV σ r Q G S p => ?_⟩
  · obtain ⟨g1, g2⟩ := glB_of h1 hX
    obtain ⟨g3, g4⟩ := glB_of h3 hX
    obtain ⟨n1, n2, n3⟩ := visB_of h2 hX
    have py : PE X (.Name y p2) (tC v) := by
      rcases hcv with hm | ⟨hm, hb, hn⟩
      · exact pe_glob g3 (by rw [hX.mg]; exact hm) rv (not_debug g4).1
      · exact pe_bltn g3 (by rw [hX.mg]; exact hm) hb rv hn (not_debug g4).1
    exact pe_callB (call_isP hX hh hv) g1 (by rw [hX.mg]; exact wok.free _ (by decide)) hboot (pa_cons (pe_var n1 n2 (not_debug n3).1 (not_debug n3).2.1) (pa_cons py pa_nil (starEach_of rfl)) (starEach_of rfl)) (by decide) (by decide) (starEach_of rfl) (back_of rfl)
  · have p : PostE W R Ex .n F H Q (match σ[i]? with
      | some (.exc x) => if ks.contains x.c then .ok (.bl (cs.contains x.c)) r else .stuck
      | _ => .stuck) := p
    cases hs : σ[i]? with
    | none => rw [hs] at p; exact p.elim
    | some s =>
      rw [hs] at p
      cases s with
      | exc x =>
        obtain ⟨e1, dd, fs, e2, e3, e4, e5, e6⟩ := S.at_ i _ hs
        have p : PostE W R Ex .n F H Q (if ks.contains x.c then .ok (.bl (cs.contains x.c)) r else .stuck) := p
        by_cases hk : ks.contains x.c = true
        · rw [if_pos hk] at p
          obtain ⟨z1, z2⟩ := hks x.c (by simpa using hk)
          exact ⟨.ref W.me, join_some e1, rfl, ⟨dd, fs, e2, G.le _ _ e4⟩, x.c, _, e3, z1, z2, PostE.flat G p (.bl _) rfl⟩
        · rw [if_neg hk] at p; exact p.elim
      | _ => exact p.elim
theorem rd_xf {i : Nat} {js : List (Nat × Nat)} {f : Str} (h : XfS W js f) : Rd W R Ex k c (.xf i js f) := by
  have key : ∀ z, chk (.xf i js f) c (.e z) = true → ∃ p x pos, z = .Attribute (.Name x p) f pos ∧ c.hot = true ∧ visB c x i = true := by
    intro z h
    cases z <;> try (exact (Bool.false_ne_true h).elim)
    rename_i o g pos
    cases o <;> try (exact (Bool.false_ne_true h).elim)
    rename_i x p
    obtain ⟨h1, h2⟩ := ba (show (c.hot && (decide (f = g) && visB c x i)) = true from h)
    obtain ⟨h2, h3⟩ := ba h2
    have h2 := of_decide_eq_true h2
    subst h2
    exact ⟨p, x, pos, rfl, h1, h3⟩
  refine .plain (fun _ => rfl) rfl (fun z h => by obtain ⟨p, x, pos, rfl, _⟩ := key z h; rfl) fun z hc => ?_
  obtain ⟨p, x, pos, rfl, hh, h1⟩ := key z hc
  refine ⟨fun σ H Q => σ[i]? = some (some (.ref W.me)) ∧ ∃ cn dd fs v, W.mc = .ref (W.ca cn) ∧ XfC W.K (W.ca cn) ∧ PySem.W.findIn W.K (.ref (W.ca cn)) f = some none ∧ W.md = some dd ∧ H dd = some (.xd fs) ∧ fs.lookup f = some v ∧ Q v H, fun X hX => ⟨fun pins s σ H Q I q => ?_⟩, fun H0 F H σV σ r Q G S p => ?_⟩
  · obtain ⟨n1, n2, n3⟩ := visB_of h1 hX
    obtain ⟨hs, cn, dd, fs, v, hc, T, hno, hmd, hd, hl, q⟩ := q
    refine attr_of (base_of rfl) (thn ((pe_var (pos := p) n1 n2 (not_debug n3).1 (not_debug n3).2.1).run pins s σ H (fun x H1 => x = .ref W.me ∧ H1 = H) I ⟨.ref W.me, hs, rfl, rfl⟩) fun u s1 hh1 => ?_)
    obtain ⟨x1, H1, I1, rx, ex, eH⟩ := hh1
    subst ex eH
    obtain rfl : u = Value.ref W.me := rx
    obtain ⟨oe, od, J, hJ⟩ := hX.inst hh I1 ⟨dd, fs, hmd, hd⟩ hc
    obtain ⟨mA, hlA, hrA⟩ := hJ dd fs hmd hd
    obtain ⟨u, hu, ru⟩ := RelO.some_of (v := v) (o := mA f) (by rw [← hl]; exact hrA f)
    rw [← hX.K] at T hno
    exact HandSPX.exc_get I1.kIn J T.ga T.gg T.exC (PySem.W.findObj_own T.hdC hno rfl (by rw [hlA, hu])) (handed_of ru) ⟨v, H1, I1.tok _, ru, q⟩
  · have p : PostE W R Ex .c F H Q (match σ[i]? with
      | some (.exc x) => .lift ((js.lookup x.c).bind fun j => x.ds[j]?) r
      | _ => .stuck) := p
    cases hs : σ[i]? with
    | none => rw [hs] at p; exact p.elim
    | some s =>
      rw [hs] at p
      cases s with
      | exc x =>
        obtain ⟨e1, dd, fs, e2, e3, e4, e5, e6⟩ := S.at_ i _ hs
        have p : PostE W R Ex .c F H Q (.lift ((js.lookup x.c).bind fun j => x.ds[j]?) r) := p
        cases hj : js.lookup x.c with
        | none => rw [hj] at p; exact p.elim
        | some j =>
          rw [hj] at p
          obtain ⟨z1, z2, z3⟩ := h x.c j hj
          obtain ⟨v, y, w1, w2, w3⟩ := e5 j f z1
          have p : PostE W R Ex .c F H Q (.lift x.ds[j]? r) := p
          rw [w2] at p
          exact ⟨join_some e1, x.c, dd, fs, v, e3, z2, z3, e2, G.le _ _ e4, w1, PostE.flatC G p w3⟩
      | _ => exact p.elim
end
end DI
set_option Elab.async false
set_option linter.all false
set_option maxRecDepth 100000
/-! Xh: repr of data where no repr runs outside; defs called there. -/
namespace DI
open PySem PySem.Spec PyProof.Rows
open L2 hiding ixN
section
variable {W : Wd} {R : Addr} {Ex : XK} {b : Bool} {k : Nat} {c : SC} {q : Kd} {F H F' H' F1 H1 H0 : Hp} {v : V} {d : D} {X : Cx} {e : E}
mutual
theorem noDict : ∀ (n : Nat) (d : DI.D), pureD n d = true → (toPy d).hasDict = false
  | _, .non, _ => rfl
  | _, .bl _, _ => rfl
  | _, .int _, _ => rfl
  | _, .str _, _ => rfl
  | n + 1, .tup ds, h => by simp only [toPy, PyData.hasDict]; exact noDicts n ds (by simpa only [pureD] using h)
  | n + 1, .lst ds, h => by simp only [toPy, PyData.hasDict]; exact noDicts n ds (by simpa only [pureD] using h)
  | 0, .tup _, h => by simp [pureD] at h
  | 0, .lst _, h => by simp [pureD] at h
  | n, .dic _, h => by cases n <;> simp [pureD] at h
  | n, .obj _ _, h => by cases n <;> simp [pureD] at h
  | n, .fnv _ _, h => by cases n <;> simp [pureD] at h
  | n, .row, h => by cases n <;> simp [pureD] at h
theorem noDicts : ∀ (n : Nat) (ds : List DI.D), pureL n ds = true → PyData.hasDictAll (toPys ds) = false
  | _, [], _ => rfl
  | n, d :: ds, h => by
    obtain ⟨h1, h2⟩ := ba (show (pureD n d && pureL n ds) = true by simpa only [pureL] using h)
    simp only [toPys, PyData.hasDictAll, noDict n d h1, noDicts n ds h2, Bool.or_self]
end
theorem rpB_inv (h : rpB d = true) : pureD 20 d = true ∧ (toPy d).showable = true ∧ (toPy d).shown.length ≤ sizeLine ∧ PyData.strOk (toPy d).shown = true := by
  unfold rpB at h
  obtain ⟨h1, h2⟩ := ba h
  obtain ⟨h2, h3⟩ := ba h2
  exact ⟨h1, h2, of_decide_eq_true h3⟩
def rRp (W : Wd) (R : Addr) (Ex : XK) : List V → Hp → VK → Prop := fun xs H Q => ∃ F r v d, xs = [v] ∧ Good W R F H r ∧ BB W R F H v d ∧ PostE W R Ex .n F H Q (.lift (rpD d) r)
theorem call_rp (hX : XOk W c k Ex X) (hg : c.top = true) : CallR X (.builtin "repr") (rRp W R Ex) := by
  intro pins s σ H xs us Q I rr h
  obtain ⟨F, r, v, d, rfl, G, bb, p⟩ := h
  cases rr with
  | cons rv rn =>
    rename_i u us
    cases rn
    have go : ∀ (a : Addr), v = .ref a → rpB d = true → rpD d = some (.str (toPy d).shown) → wpAny (model X.prog X.w) X.A (call (.builtin "repr") [u]) (EP X pins σ Q) X.xe s := by
      intro a hv hb hd
      subst hv
      rw [hd] at p
      obtain ⟨h1, h2, h3, h4⟩ := rpB_inv hb
      obtain ⟨a1, _, a3⟩ := bb.dp G.le h1
      rw [← hX.K] at a1
      obtain ⟨as, r1⟩ := Dp.reads I _ _ _ a1 rv
      obtain rfl : u = Value.ref a := rv
      have hu := hX.un0
      exact repr_of_reads' r1 h2 (fun z => by rw [noDict _ _ h1] at z; cases z) (hX.gd hg) (by omega) (fun _ _ e => e) (fun h' u tk hk => ⟨.str (toPy d).shown, H, I.kept (t' := tk) hk, ⟨_, rfl⟩, PostE.flat G p (.str _ ⟨h3, h4⟩) rfl⟩) h3
    cases d with
    | tup ds =>
      have p : PostE W R Ex .n F H Q (.lift (if rpB (.tup ds) then some (.str (toPy (.tup ds)).shown) else none) r) := p
      by_cases hb : rpB (.tup ds) = true
      · obtain ⟨a, xs, rfl, _⟩ := bb.tup
        exact go a rfl hb (if_pos hb)
      · rw [if_neg hb] at p; exact p.elim
    | lst ds =>
      have p : PostE W R Ex .n F H Q (.lift (if rpB (.lst ds) then some (.str (toPy (.lst ds)).shown) else none) r) := p
      by_cases hb : rpB (.lst ds) = true
      · obtain ⟨a, xs, rfl, _⟩ := bb.lst G.le
        exact go a rfl hb (if_pos hb)
      · rw [if_neg hb] at p; exact p.elim
    | _ => exact p.elim
theorem rd_rp (wok : WOk W) {a : E} (ha : Rd W R Ex k c a) : Rd W R Ex k c (.rp a) := by
  have key : ∀ z, chk (.rp a) c (.e z) = true → ∃ p x pos, z = .Call (.Name "repr" p) [x] [] pos ∧ c.top = true ∧ glB c "repr" = true ∧ notStar x = true ∧ chk a c (.e x) = true := by
    intro z h
    cases z <;> try (exact (Bool.false_ne_true h).elim)
    rename_i f args kws pos
    cases f <;> try (exact (Bool.false_ne_true h).elim)
    rename_i y p
    cases args with
    | nil => exact (Bool.false_ne_true h).elim
    | cons x as =>
    cases as with
    | cons _ _ => exact (Bool.false_ne_true h).elim
    | nil =>
    cases kws with
    | cons _ _ => exact (Bool.false_ne_true h).elim
    | nil =>
    obtain ⟨h1, h2⟩ := ba (show (c.top && (decide (y = ("repr" : Str)) && (glB c y && (notStar x && chk a c (.e x))))) = true from h)
    obtain ⟨h2, h3⟩ := ba h2
    obtain ⟨h4, h5⟩ := ba h3
    have h2 := of_decide_eq_true h2
    subst h2
    exact ⟨p, x, pos, rfl, h1, h4, ba h5⟩
  refine .plain (fun _ => rfl) rfl (fun z h => by obtain ⟨p, x, pos, rfl, _⟩ := key z h; rfl) fun z hc => ?_
  obtain ⟨p, x, pos, rfl, hg, h1, h2, h3⟩ := key z hc
  obtain ⟨ta, pa, sa⟩ := ha.val x h3
  have hboot : bootBuiltins ("repr" : Str) = some (.builtin "repr") := by with_unfolding_all rfl
  refine ⟨tCB (rRp W R Ex) (tCons ta tNil), fun X hX => ?_, fun H0 F H σV σ r Q G S p => ?_⟩
  · obtain ⟨g1, g2⟩ := glB_of h1 hX
    exact pe_callB (call_rp hX hg) g1 (by rw [hX.mg]; exact wok.free _ (by decide)) hboot (pa_cons (pa X hX) pa_nil (starEach_of h2)) (by decide) (by decide) (starEach_of h2) (back_of rfl)
  · exact sa.then_ G S (Post := PostE W R Ex .n F H Q) PostE.s PostE.x p fun dx r1 v F1 H1 G1 g1 S1 p1 q1 => ⟨F1, r1, v, dx, rfl, G1, p1.bb, PostE.grow g1 q1⟩
theorem pe_callG {f : Addr} {fd : FuncData} {ps : List Str} {x : Str} {g : Fn} {p pos : Pos} {e : Expr} {es : List Expr} {t : TA} (hX : XOk W c k Ex X) (hg : c.top = true) (hk0 : 0 < k)
    (F : ∀ (A : Around) (outer : List Env) (s : Shared) (H : Hp) (us : List Value) (vs : List V) (Q : VK) (E : XK), A.guards = some [] → Room k A → Env0 W.P W.w W.K W.mg W.base A outer s H → BindsTo s fd ⟨us, []⟩ (ps.zip us) → Vals vs us → spOf W ps.length g vs H Q E →
      codeAny (model W.P W.w) A (.call (.ref f) ⟨us, []⟩) (CR (L2.CX W.P W.w) outer W.P W.w H s Q E) s)
    (hgl : Gl X x) (hm : X.mg x = some (.ref f)) (hk : PySem.W.keepIn X.K (.ref f) = true) (hb : Binds X.K fd ps []) (ha : PA X (e :: es) t) (hdb : (x == ("__debug__" : Str)) = false) (he : starEach (e :: es) X.env = (false, eval e X.env) :: starEach es X.env) (hpl : (backTo pos (starEach es X.env)).any (·.1) = false) :
    PE X (.Call (.Name x p) (e :: es) [] pos) (fun σ H Q => t σ H fun vs H1 => spOf W ps.length g vs H1 Q Ex) := by
  refine ⟨fun pins s σ H Q I h => ?_⟩
  refine wpAny_Call_Name_kw (ld_glob I hgl hm ?_ hdb)
  refine PySem.W.callWith_K (h₀ := X.base) I.ok.mod.kin hk (thn (ha.run pos pins s σ H _ I h) fun us s1 ⟨vs, H1, I1, r, q⟩ => ⟨I1.kIn, ?_⟩) he hpl
  have hl : us.length = ps.length := by rw [← r.length]; exact q.1
  have b := hb s1 us I1.kIn (by rw [List.append_nil]; exact hl)
  rw [List.append_nil] at b
  have e0 := I1.env0
  rw [hX.prog, hX.w, hX.K, hX.mg, hX.base] at e0
  have rc := F X.A X.stack s1 H1 us vs Q Ex (hX.gd hg) (hX.room hk0) e0 b r q
  have hx := passes_ok hX
  rw [hX.prog, hX.w]
  refine wpAny_call (codeAny_mono rc fun r s' hq => ?_)
  cases r with
  | error e => exact hx pins σ H1 s1 e s' I1 hq
  | ok fl =>
    cases fl with
    | ret u =>
      have hq : CE X.stack X.prog X.w H1 s1 Q u s' := by rw [hX.prog, hX.w]; exact hq
      exact I1.after hq
    | next => exact False.elim hq
    | brk => exact False.elim hq
    | cont => exact False.elim hq
theorem rd_gcall {z : Str} {g : Fn} {es : E} (hk : 0 < k) (fs : FnG W k z g) (nb : noBs es) (h : Rd W R Ex k c es) : Rd W R Ex k c (.gcall z g es) := by
  have key : ∀ x, chk (.gcall z g es) c (.e x) = true → ∃ p a as pos, x = .Call (.Name z p) (a :: as) [] pos ∧ c.top = true ∧ glB c z = true ∧ chk es c (.es (a :: as)) = true := by
    intro x h
    cases x <;> try (exact (Bool.false_ne_true h).elim)
    rename_i f args kws pos
    cases f <;> try (exact (Bool.false_ne_true h).elim)
    rename_i y p
    cases args with
    | nil => exact (Bool.false_ne_true h).elim
    | cons a as =>
    cases kws with
    | cons _ _ => exact (Bool.false_ne_true h).elim
    | nil =>
    obtain ⟨h1, h2⟩ := ba (show (c.top && (decide (z = y) && (glB c y && chk es c (.es (a :: as))))) = true from h)
    obtain ⟨h2, h3⟩ := ba h2
    have h2 := of_decide_eq_true h2
    subst h2
    exact ⟨p, a, as, pos, rfl, h1, ba h3⟩
  refine .plain (fun _ => rfl) rfl (fun x h => by obtain ⟨p, a, as, pos, rfl, _⟩ := key x h; rfl) fun x hc => ?_
  obtain ⟨p, a, as, pos, rfl, hg, h1, h2⟩ := key x hc
  obtain ⟨t, pa, _, sa, _⟩ := h.arg _ h2
  obtain ⟨f, fd, ps, e1, e2, e3, e5, e4⟩ := fs.ex
  have hst := chk_star h2
  obtain ⟨hs1, hs2⟩ := ba (show (notStar a && as.all notStar) = true from hst)
  refine ⟨fun σ H Q => t σ H fun vs H1 => spOf W ps.length g vs H1 Q Ex, fun X hX => ?_, ?_⟩
  · obtain ⟨g1, g2⟩ := glB_of h1 hX
    exact pe_callG hX hg hk e4 g1 (by rw [hX.mg]; exact e1) (by rw [hX.K]; exact e2) (by rw [hX.K]; exact e3) (pa X hX) (not_debug g2).1 (starEach_of hs1) (back_of hs2)
  · refine satA_bindC (sa nb) fun F H F1 H1 r Q vs ds G g1 ps1 p => ?_
    refine ⟨?_, R, F1, r, ds, G, ps1.reps, p⟩
    rw [ps1.length]
    exact Classical.byContradiction fun z => by rw [e5 ds r z] at p; exact p
end
end DI
set_option Elab.async false
set_option linter.all false
set_option maxRecDepth 100000
set_option maxHeartbeats 1000000
/-! Xm: lambdas of the law's own, called by a def that got them within a comprehension's block. -/
namespace DI
open PySem PySem.Spec PyProof.Rows
open L2 hiding ixN
section
variable {X : Cx} {pins : List (Addr × Obj)} {σ : L2.St} {H HZ : Hp} {s s1 : Shared}
/-- the lambda's body entered at s1; its cells as they were at s -/
theorem lam_startE {A : Around} {outer : List Env} {E : XK} {scope : Scope} {f c' : Addr} {h₁ : Heap} {tk : Nat} {a : Str} {u : Value} (I : Inv X pins σ H s) (L : LamD X.env.scope scope a) (hN : ∀ (j : Nat) (y : Str), X.N[j]? = some y → y ≠ a) (e0 : Env0 X.prog X.w X.K X.mg X.base A outer s1 HZ) (hd : A.handled = none)
    (kc : ∀ y c v, X.env.cells.lookup y = some c → s.heap.IsCell c v → s1.heap.IsCell c v) (fc : ∀ y c, X.env.cells.lookup y = some c → HZ c = none) (hns : h₁.Ns s1.heap.objs.size fun y => ([(a, u)] : List (Str × Value)).reverse.lookup y) (kp : ∀ b o, s1.heap.get? b = some o → h₁.get? b = some o) :
    Inv (LamX.lamCx X A outer s1 HZ E scope f c') [] σ HZ { s1 with heap := h₁, toks := tk } := by
  have hfree := L.has I.ok
  have cm : ∀ {y c}, (cloFrom X.env.cells scope.names []).lookup y = some c → X.env.cells.lookup y = some c := fun {y c} e => by
    rcases cloFrom_mem (PySem.mem_of_lookup e) with hm | ⟨h1, h2⟩
    · cases hm
    · obtain ⟨c1, hc⟩ := hfree _ h1 rfl
      have hc : X.env.cells.lookup y = some c1 := hc
      have e2 : c = c1 := by
        rw [h2, hc] <;> rfl
      rw [e2]
      exact hc
  have look : ∀ {y}, scope.names.lookup y = some .free → ∃ c, (cloFrom X.env.cells scope.names []).lookup y = some c := fun {y} hl => by
    have hy : (y, NameKind.free) ∈ scope.names := PySem.mem_of_lookup hl
    exact mem_lookup (cloFrom_has (cells := X.env.cells) (acc := []) hy)
  have cellK : ∀ {y : Str} {c : Addr} {v : Option Value}, X.env.cells.lookup y = some c → s.heap.IsCell c v → h₁.IsCell c v := fun {y c v} n z => by
    obtain ⟨o, ho, hd⟩ := kc y c v n z
    exact ⟨_, kp _ _ ho, hd⟩
  have noA : ∀ b : Addr, b ∉ (LamX.lamCx X A outer s1 HZ E scope f c').ex := fun b z => absurd (show b ∈ ([] : List Addr) from z) (by simp)
  refine ⟨⟨e0.mod, L.kind, rfl, rfl, Nat.le_refl _, fun y z c e1 e2 => I.ok.inj y z c (cm e1) (cm e2), fun y hy => ?_, fun y c z _ => ?_, fun _ => hd, Around.frames_deeper e0.frames, .inr ⟨rfl, rfl⟩, fun b z => absurd z (noA b), e0.bs, e0.bsz, fun b _ _ => noA b,
      fun b z => absurd z (noA b), e0.funs, e0.frf⟩,
    rfl, e0.bare, Un.kept kp, ⟨_, hns, fun i y v e1 e2 e3 => ?_⟩, fun y c e => ?_, e0.hok.fresh (Nat.le_refl _), fun y c e => fc y c (cm e), fun q hq => absurd (show q ∈ ([] : List (Addr × Obj)) ++ [] from hq) (by simp), e0.hok.kept kp, I.len⟩
  · have hy : scope.names.lookup y = some .cell ∨ scope.names.lookup y = some .free := hy
    rcases hy with hy | hy
    · exact absurd rfl (L.own _ (PySem.mem_of_lookup hy)).2
    · exact look hy
  · have z : false = true := z
    cases z
  · have e3 : Vis scope y := e3
    rcases e3 with k | k | k
    · exact absurd ((L.own _ (PySem.mem_of_lookup k)).1 rfl) (hN i y e1)
    · exact absurd rfl (L.own _ (PySem.mem_of_lookup k)).2
    · obtain ⟨m, hn, hl⟩ := I.loc
      have hvis : Vis X.env.scope y := (L.free _ (PySem.mem_of_lookup k) rfl).elim (fun k => .inr (.inl k)) (fun k => .inr (.inr k))
      obtain ⟨w', r, q⟩ := hl i y v e1 e2 hvis
      obtain ⟨c2, h2⟩ := look k
      refine ⟨w', r, .inr ⟨.inr k, c2, h2, ?_⟩⟩
      have c1 := cm h2
      rcases q with ⟨k', _⟩ | ⟨_, c3, e', z⟩
      · have k' : X.env.scope.names.lookup y = some .local := k'
        rcases L.free _ (PySem.mem_of_lookup k) rfl with k2 | k2 <;> rw [show X.env.scope.names.lookup y = _ from k2] at k' <;> cases k'
      · rw [c1] at e'
        cases e'
        exact cellK c1 z
  · obtain ⟨w', z⟩ := I.cell y c (cm e)
    exact ⟨w', cellK (cm e) z⟩
/-- x(), in the def that got the lambda; Y: the block in which that def is called -/
theorem pe_actE {CXg : CXT} {Eg : XK} {Ng : List Str} {qg : Str} {sg : Scope} {g f c' t : Addr} {cdg : Value} {Ψ : Arguments → Expr → Scope → Prop} {i : Int} {k ix : Nat} {a : Str} {pn : List (Addr × Obj)} {xe : Value → Shared → Prop} {W : WX} {E : XK} {p1 p2 : Pos} {s2 : Shared} {H2 : Hp}
    (I : Inv X pins σ H s) (kc : ∀ y c v, X.env.cells.lookup y = some c → s.heap.IsCell c v → s2.heap.IsCell c v) (fc : ∀ y c, X.env.cells.lookup y = some c → H2 c = none)
    (hΨ : ∀ pa z sc', Ψ pa z sc' → ∃ a, paramsD pa = some (a, i) ∧ LamD X.env.scope sc' a ∧ ∀ (j : Nat) (y : Str), X.N[j]? = some y → y ≠ a)
    (tk : Takes ((cxOf CXg X.prog X.w X.K X.mg X.base Ng qg sg g cdg X.A X.stack s2 H2 Eg).tr pn xe) W) (hW : ∀ cls d σ' H', E cls d H' → W cls d σ' H') (hr : Room (k + 1) (X.A.deeper (envOfC qg sg s2.heap.objs.size g cdg)))
    (hN : Ng[ix]? = some a) (hv : Vis sg a) (hd : (a == ("__debug__" : Str)) = false) (hcd : (a == ("__classdict__" : Str)) = false) :
    PE ((cxOf CXg X.prog X.w X.K X.mg X.base Ng qg sg g cdg X.A X.stack s2 H2 Eg).tr pn xe) (.Call (.Name a p1) [] [] p2)
      (fun σZ HZ Q => σZ[ix]? = some (some (.ref f)) ∧ HZ c' = some (LamX.CodeO c' (X.env.qual ++ "<lambda>")) ∧ (HZ f = some (LamDO X.env.cells (X.env.qual ++ "<lambda>") Ψ f c' t) ∧ HZ t = some (DefO t i) ∧
        ∀ pa z sc', Ψ pa z sc' → ∃ tb : TE, (∀ (A : Around) (outer : List Env) (s : Shared) (H : Hp), Room k (A.deeper (LamX.lamEnv X sc' s.heap.objs.size f c')) → PE (LamX.lamCx X A outer s H E sc' f c') z tb) ∧ tb σ HZ Q)) := by
  refine ⟨fun pinsZ sZ σZ HZ Q IZ h => ?_⟩
  obtain ⟨hs, hc, hf, ht, hb⟩ := h
  refine wpAny_Call_Name_kw (thn ((pe_var (pos := p1) (i := ix) hN hv hd hcd).run pinsZ sZ σZ HZ (fun v H1 => v = .ref f ∧ H1 = HZ) IZ ⟨.ref f, hs, rfl, rfl⟩) fun u s1 ⟨v, H1, I1, r1, q1⟩ => ?_)
  obtain ⟨ev, eH⟩ := q1
  subst ev
  rw [eH] at I1
  obtain rfl : u = Value.ref f := r1
  obtain ⟨⟨pa, z, sc', pm, doc, ctv, of1, hz⟩, _, _⟩ := I1.hok f _ hf
  obtain ⟨⟨tkd, ot⟩, _, _⟩ := I1.hok t _ ht
  obtain ⟨⟨oc, vs, tq, hoc, hdc, hvc⟩, _, _⟩ := I1.hok c' _ hc
  obtain ⟨y, hpa, L, hNy⟩ := hΨ pa z sc' hz
  obtain ⟨x, j, pp, rfl, rfl⟩ := paramsD_of hpa
  obtain ⟨tb, hbody, htb⟩ := hb _ z sc' hz
  refine PySem.W.callWith_F0 ⟨_, _, _, _, of1⟩ ?_
  have un : Un (frs X.stack) [] H2 HZ s2.heap s1.heap := I1.base
  have rc : codeAny (model X.prog X.w) (X.A.deeper (envOfC qg sg s2.heap.objs.size g cdg)) (.call (.ref f) ⟨[], []⟩) (CR (L2.CX X.prog X.w) (envOfC qg sg s2.heap.objs.size g cdg :: X.stack) X.prog X.w HZ s1 Q E) s1 := by
    refine PySem.W.kla_callFunE hr.depth of1 rfl L.co L.gen rfl ⟨c', oc, vs, tq, rfl, hoc, hdc, hvc⟩ ?_
    refine kdv_bindsD ot _ _ _ _ ?_
    refine wpAny_newFunctionEnv (fun y hy => (L.own y hy).2) (fun y hy => by rw [List.mem_singleton.mp hy]; exact L.par) (fun h₁ hns hsb => ⟨I1.nolimit.fresh _ hsb, ?_⟩) L.kind
    show codeAny _ _ (.expr z (LamX.lamEnv X sc' s1.heap.objs.size f c')) _ _
    have kp : ∀ b o, s1.heap.get? b = some o → h₁.get? b = some o := fun b o e => hsb.extBut b o (Nat.ne_of_lt (Heap.lt_size e)) (Heap.get?_push_of_some _ e)
    have J : Inv (LamX.lamCx X (X.A.deeper (envOfC qg sg s2.heap.objs.size g cdg)) (envOfC qg sg s2.heap.objs.size g cdg :: X.stack) s1 HZ E sc' f c') [] σ HZ { s1 with heap := h₁, toks := s1.toks + ([(x.arg, Value.int i tkd)] : List (Str × Value)).length } :=
      lam_startE I L hNy I1.env0 hr.hd (fun y c v e z => by
        obtain ⟨o, ho, hdd⟩ := kc y c v e z
        obtain ⟨sl, q⟩ := un.any ho (fc y c e) (by simp)
        exact ⟨_, q, hdd⟩) (fun y c e => by
        obtain ⟨v, z⟩ := I.cell y c e
        obtain ⟨o, ho, hdd⟩ := kc y c v e z
        exact un.free c o ho (fc y c e) (by simp)) hns kp
    refine PySem.W.kla_codeExpr (wpAny_mono ((hbody _ _ s1 HZ (hr.deeper _)).run [] _ _ HZ Q J htb) (fun v s' hq => ?_) fun e s' hq => hq)
    obtain ⟨w', H', J', rv, q⟩ := hq
    exact ⟨w', H', J'.os, J'.bare, J'.base, J'.hok, rv, q⟩
  have hx : Passes (L2.CX X.prog X.w) ((cxOf CXg X.prog X.w X.K X.mg X.base Ng qg sg g cdg X.A X.stack s2 H2 Eg).tr pn xe) E := passes_call tk hW
  refine wpAny_call (codeAny_mono rc fun r s' hq => ?_)
  cases r with
  | error e => exact hx pinsZ σZ HZ s1 e s' I1 hq
  | ok fl =>
    cases fl with
    | ret u => exact I1.after hq
    | next => exact False.elim hq
    | brk => exact False.elim hq
    | cont => exact False.elim hq
/-- x(v) in a block that starts at s -/
theorem pe_tellE {scope : Scope} {ce : Env} {fp : List Addr} {TT : (XK → Hp → VK → Prop) → Hp → VK → Prop} {x a v q : Str} {g : Addr} {k iv : Nat} {pg : Arguments} {bg : List Stmt} {sg : Scope} {dV kV doc pm cdv ct oc : Value} {an od : Option Addr} {osl : Array (Option Value)} {Ng : List Str}
    {p vp pos : Pos} (I : Inv X pins σ H s) (hfp : ∀ b ∈ fp, ∀ y c, X.env.cells.lookup y = some c → c ≠ b) (hg : Gl (X.blk s H scope ce fp) x) (hm : X.mg x = some (.ref g)) (hk : PySem.W.keepIn X.K (.ref g) = true)
    (lk : X.K.lookup g = some ⟨oc, od, .func (PySem.W.fnOf x x pg bg sg dV kV doc pm an cdv ct), osl⟩) (hcg : PySem.W.codeIn X.K cdv x = true) (hb : L2.Binds X.K (PySem.W.fnOf x x pg bg sg dV kV doc pm an cdv ct) [a] []) (Sg : FnScope Ng [a] sg) (hNg : Ng[0]? = some a) (hva : Vis sg a)
    (hG : LamX.GivesTo (X.blk s H scope ce fp) Ng x sg g cdv bg a (X.env.qual ++ "<lambda>") TT) (hr : Room (k + 2) X.A)
    (hv1 : X.N[iv]? = some v) (hv2 : Vis ce.scope v) (hv3 : (v == ("__debug__" : Str)) = false) (hv4 : (v == ("__classdict__" : Str)) = false)
    (hdb : (x == ("__debug__" : Str)) = false) (hd : (a == ("__debug__" : Str)) = false) (hcd : (a == ("__classdict__" : Str)) = false) :
    PE (X.blk s H scope ce fp) (.Call (.Name x p) [.Name v vp] [] pos) (fun σ2 H2 Q => ∃ (f c' t : Addr) (i : Int) (Ψ : Arguments → Expr → Scope → Prop), σ2[iv]? = some (some (.ref f)) ∧ H2 c' = some (LamX.CodeO c' (X.env.qual ++ "<lambda>")) ∧
      (∀ pa z sc', Ψ pa z sc' → ∃ a, paramsD pa = some (a, i) ∧ LamD X.env.scope sc' a ∧ ∀ (j : Nat) (y : Str), X.N[j]? = some y → y ≠ a) ∧
      TT (fun E HZ Q' => HZ f = some (LamDO X.env.cells (X.env.qual ++ "<lambda>") Ψ f c' t) ∧ HZ t = some (DefO t i) ∧
        ∀ pa z sc', Ψ pa z sc' → ∃ tb : TE, (∀ (A : Around) (outer : List Env) (s : Shared) (H : Hp), Room k (A.deeper (LamX.lamEnv X sc' s.heap.objs.size f c')) → PE (LamX.lamCx X A outer s H E sc' f c') z tb) ∧ tb σ HZ Q') H2 Q) := by
  refine ⟨fun pins2 s2 σ2 H2 Q I2 h => ?_⟩
  obtain ⟨f, c', t, i, Ψ, hs, hc, hΨ, htt⟩ := h
  refine wpAny_Call_Name_kw (ld_glob I2 hg hm ?_ hdb)
  refine PySem.W.callWith_K (h₀ := X.base) I2.ok.mod.kin hk ?_ (by rfl) (by rfl)
  show wpAny _ _ (spliced ((false, eval (.Name v vp) (X.blk s H scope ce fp).env) :: backTo pos (starEach [] (X.blk s H scope ce fp).env))) _ _ s2
  refine Calls.spliced_cons (thn ((pe_var (X := X.blk s H scope ce fp) (pos := vp) (i := iv) hv1 hv2 hv3 hv4).run pins2 s2 σ2 H2 (fun v H1 => v = .ref f ∧ H1 = H2) I2 ⟨.ref f, hs, rfl, rfl⟩) fun u s1 ⟨v', H1, I1, r1, q1⟩ => ?_)
  obtain ⟨e1, eH⟩ := q1
  subst e1
  rw [eH] at I1
  obtain rfl : u = Value.ref f := r1
  refine Calls.spliced_nil ⟨I1.kIn, ?_⟩
  have un : Un (frs X.stack) fp H H2 s.heap s1.heap := I1.base
  have nfp : ∀ y c, X.env.cells.lookup y = some c → c ∉ fp := fun y c e z => hfp c z y c e rfl
  have rc : codeAny (model X.prog X.w) X.A (.call (.ref g) ⟨[.ref f], []⟩) (CR C8.CX0 X.stack X.prog X.w H2 s1 Q C8.E0) s1 := by
    refine LamX.run_ofS (N := Ng) (ps := [a]) (us := [.ref f]) (vs := [.ref f]) lk hcg Sg hr I1.env0 (hb s1 [.ref f] I1.kIn rfl) (.cons rfl .nil) rfl fun hr' => ?_
    obtain ⟨t', ht', hq'⟩ := hG f c' s1 H2 Q _ (fun W pn xe E p1 p2 tk hW => pe_actE (ix := 0) (t := t) I (fun y c v e z => by
        obtain ⟨o, ho, hdd⟩ := z
        obtain ⟨sl, q⟩ := un.any ho (I.freeC y c e) (nfp y c e)
        exact ⟨_, q, hdd⟩) (fun y c e => by
        obtain ⟨v, o, ho, hdd⟩ := I.cell y c e
        exact un.free c o ho (I.freeC y c e) (nfp y c e)) hΨ tk hW hr' hNg hva hd hcd) hc htt
    exact ⟨t', ht'.nox, hq'⟩
  refine wpAny_call (codeAny_mono rc fun r s2 hq => ?_)
  cases r with
  | error e => exact (show False from hq).elim
  | ok fl =>
    cases fl with
    | ret u => exact I1.after hq
    | next => exact False.elim hq
    | brk => exact False.elim hq
    | cont => exact False.elim hq
end
end DI
set_option Elab.async false
set_option linter.all false
set_option maxRecDepth 100000
set_option maxHeartbeats 1000000
/-! Xn: a list of what the law's own lambdas tell. -/
namespace L2
open PySem PySem.Spec PyProof.Rows
section
variable {X : Cx}
/-- a list comprehension whose element is read by what holds at its start -/
theorem lcI_core {pins : List (Addr × Obj)} {s : Shared} {σ : St} {H : Hp} {Q : VK} {elt tg iter : Expr} {ifs : List Expr} {scope : Scope} {own : List (Str × Nat)} {pos pos' : Pos} {wi : TI} {g : TG} {tt : TT} {te : TE} {use : Option (Value → Sem Unit)} {Qf : Value → Shared → Prop}
    (hc : X.calm = true) (hN : X.N.Nodup) (I : Inv X pins σ H s) (hi : PI X tg iter wi) (ok : BlkOk X.N X.env.scope scope own)
    (hg : ∀ (s : Shared) (H : Hp) (C : Addr) (cl : List (Str × Addr)) (fp : List Addr), PG (X.blk s H scope (compEnvC scope cl C X.env) fp) tg g) (ht : ∀ (s : Shared) (H : Hp) (C : Addr) (cl : List (Str × Addr)) (fp : List Addr), PTs (X.blk s H scope (compEnvC scope cl C X.env) fp) ifs tt)
    (he : ∀ (s : Shared) (H : Hp) (C : Addr) (cl : List (Str × Addr)) (fp : List Addr), Inv X pins σ H s → (∀ b ∈ fp, ∀ y c, X.env.cells.lookup y = some c → c ≠ b) → PE (X.blk s H scope (compEnvC scope cl C X.env) fp) elt te) (hs : ∀ x, foldedSetIterable iter X.env x = pure x)
    (h : L2.tLc wi g tt te (own.map (·.2)) σ H Q)
    (hRR : ∀ D C s' m H', Inv X pins σ H' s' → Q (.ref D) H' → s'.heap.Ns C m → FpOk X pins H' C → compPost (model X.prog X.w) X.A X.xe use Qf (.ref D) C (.ok .next) s') :
    wpAny (model X.prog X.w) X.A (comprehension (.ListComp elt [⟨tg, iter, ifs, 0⟩] scope pos) scope X.env pos' (newList []) false (eval iter X.env) use) Qf X.xe s := by
  have hfree : ∀ y ∈ scope.names, y.2 = .free → ∃ c, X.env.cells.lookup y.1 = some c := fun y hy e => by
    rcases ok.free y hy e with k | k
    · exact I.ok.has _ (.inl k)
    · exact I.ok.has _ (.inr k)
  refine wpAny_comprehension_free (use := use) rfl hs (closure_ok hfree) ok.kind (fun y hy e => by rw [ok.uniq y hy, e])
    (thn (hi.run pins s σ H _ I h) fun xv s1 hx => thn hx fun itv s2 h2 => ?_)
  obtain ⟨it, fp, tn, J, H2, e, I2, T, st2, f2, q⟩ := h2
  subst e
  refine wpAny_newObj_type (newEnv_comp ?_) (by show 0 ≤ sizeLine; decide)
  generalize hD : s2.heap.objs.size = D
  have hDn : H2 D = none := I2.hok.fresh (Nat.le_of_eq hD)
  obtain ⟨W, ⟨m0, w0⟩, turn⟩ := q D hDn
  -- the new list
  generalize hs3 : ({ s2 with heap := s2.heap.push { cls := .type "list", data := .seq ([] : List Value).toArray } } : Shared) = s3
  have I3 : Inv X pins σ (upd H2 D (.lst [])) s3 := by
    rw [← hs3]
    refine I2.laid (t' := s2.toks) (fun b o e => Heap.get?_push_of_some _ e) (Nat.le_of_eq hD) ⟨Nat.zero_le _, [], 0, .nil, ?_⟩
    rw [← hD]
    exact Heap.get?_push_size _ rfl
  have h3 : s3.heap = s2.heap.push { cls := .type "list", data := .seq ([] : List Value).toArray } := by rw [← hs3]
  have sz : ∀ b ∈ fp, b < s2.heap.objs.size := fun b hb => by
    obtain ⟨o, e, _⟩ := T.obj _ _ st2 b hb
    exact Heap.lt_size e
  have f3 : ∀ b ∈ fp, FpOk X pins (upd H2 D (.lst [])) b ∧ b < s3.heap.objs.size := fun b hb => by
    have hlt := sz b hb
    refine ⟨⟨?_, (f2 b hb).2⟩, by rw [h3, Heap.size_push]; exact Nat.lt_succ_of_lt hlt⟩
    rw [upd_ne (by rw [← hD]; exact Nat.ne_of_lt hlt)]
    exact (f2 b hb).1
  have st3 : tn 0 s3.heap := T.keep _ _ _ st2 fun b _ o e => by rw [h3]; exact Heap.get?_push_of_some _ e
  have I4 := block_start I3 ok hN f3
  have pg := hg s3 (upd H2 D (.lst [])) s3.heap.objs.size (cellsFrom (s3.heap.objs.size + 1) scope.names (cloFrom X.env.cells scope.names [])) fp
  have pt := ht s3 (upd H2 D (.lst [])) s3.heap.objs.size (cellsFrom (s3.heap.objs.size + 1) scope.names (cloFrom X.env.cells scope.names [])) fp
  have pe := he s3 (upd H2 D (.lst [])) s3.heap.objs.size (cellsFrom (s3.heap.objs.size + 1) scope.names (cloFrom X.env.cells scope.names [])) fp I3 fun b hb => (f3 b hb).1.2.2.2.2.1
  show codeAny _ _ (.compStart (.ListComp elt [⟨tg, iter, ifs, 0⟩] scope pos) 0 (.ref it) (.ref D) (compEnvC scope (cellsFrom (s3.heap.objs.size + 1) scope.names (cloFrom X.env.cells scope.names [])) s3.heap.objs.size X.env)) (compPost (model X.prog X.w) X.A X.xe use Qf (.ref D) s3.heap.objs.size) { s3 with heap := pushCells (s3.heap.push { cls := .type "dict", data := .dict #[] }) scope.names }
  have nfp : ∀ b ∈ fp, (upd H2 D (.lst [])) b = none := fun b hb => (f3 b hb).1.1
  generalize hce : compEnvC scope (cellsFrom (s3.heap.objs.size + 1) scope.names (cloFrom X.env.cells scope.names [])) s3.heap.objs.size X.env = ce at I4 pg pt pe ⊢
  have cL : ce.locals = s3.heap.objs.size := by subst hce; rfl
  generalize hH3 : upd H2 D (.lst []) = H3 at I3 I4 pg pt pe w0 nfp f3
  generalize hs4 : ({ s3 with heap := pushCells (s3.heap.push { cls := .type "dict", data := .dict #[] }) scope.names } : Shared) = s4 at I4 ⊢
  have st4 : tn 0 s4.heap := T.keep _ _ _ st3 fun b _ o e => by rw [← hs4]; exact pushCells_keeps _ _ _ _ (Heap.get?_push_of_some _ e)
  have stat : ∀ {σ' : St} {H' : Hp} {s' : Shared}, Inv (X.blk s3 H3 scope ce fp) [] σ' H' s' → (∀ b ∈ fp, H' b = none) → ∀ b ∈ fp, FpOk (X.blk s3 H3 scope ce fp) [] H' b := fun {σ' H' s'} I' hn b hb =>
    ⟨hn b hb, (I'.ok.exf b hb).1, I'.ok.exfs b hb, .inl hb, fun x c e => (I'.ok.exf b hb).2 x c e, fun p hp => absurd (show p ∈ ([] : List (Addr × Obj)) ++ [] from hp) (by simp)⟩
  have loop : codeAny (model X.prog X.w) X.A (.compLoop (.ListComp elt [⟨tg, iter, ifs, 0⟩] scope pos) 0 (.ref it) (.ref D) ce) (compPost (model X.prog X.w) X.A X.xe use Qf (.ref D) s3.heap.objs.size) s4 := by
    refine compLoop_any (fun n s' => ∃ i H', Inv (X.blk s3 H3 scope ce fp) [] (wipe σ (own.map (·.2))) H' s' ∧ tn i s'.heap ∧ (∀ b ∈ fp, H' b = none) ∧ W i n H') ?_ m0 ⟨0, H3, I4, st4, nfp, w0⟩
    rintro n s5 ⟨i, H5, I5, st5, n5, w5⟩
    rcases turn i n H5 w5 with ⟨stop, qq⟩ | ⟨go, Nx, hNx, step⟩
    · have td := T.done (X.blk s3 H3 scope ce fp) rfl rfl rfl hc i [] s5 _ H5 (fun _ _ => False) I5 (stat I5 n5) st5 stop
      refine thnF td fun r s6 ⟨hr, I6⟩ => ?_
      subst hr
      -- back in the def's context
      have I7 : Inv X pins σ H5 s6 := I3.call' (ch := fp) I6.os I6.base I6.hok I6.bare fun b hb => ⟨(f3 b hb).1.2.2.2.1, (f3 b hb).1.2.1, (f3 b hb).1.2.2.2.2.1, (f3 b hb).1.2.2.2.2.2⟩
      have nC : H5 s3.heap.objs.size = none := by
        have z : H5 ce.locals = none := I6.free
        rw [cL] at z
        exact z
      obtain ⟨m, hn, _⟩ := I6.loc
      have hn : s6.heap.Ns ce.locals m := hn
      rw [cL] at hn
      exact hRR D s3.heap.objs.size s6 m H5 I7 qq hn (I3.fpOk (Nat.le_refl _) nC)
    · have ti := T.item (X.blk s3 H3 scope ce fp) rfl rfl rfl hc i [] s5 _ H5 (fun _ _ => False) I5 (stat I5 n5) st5 go
      refine thnF ti fun r s6 ⟨u, hr, h6⟩ => ?_
      subst hr
      refine thnF h6 fun _ s7 ⟨x, H7, I7, r7, y7, st7, n7⟩ => ?_
      have I7' := I7.pinned (stat I7 n7) (T.obj _ _ st7)
      refine thnF (pg.run _ s7 _ H7 x u _ I7' r7 (step x H7 y7)) fun _ s8 ⟨σ8, H8, I8, hw8, q8⟩ => ?_
      refine thnF (pt.run _ s8 σ8 H8 _ I8 q8) fun b s9 ⟨H9, I9, q9⟩ => ?_
      -- the turn's end
      have fin : ∀ {s' : Shared} {H' : Hp}, Inv (X.blk s3 H3 scope ce fp) ([] ++ pinsAt fp s7.heap) σ8 H' s' → Nx H' → ∃ m, m < n ∧ ∃ i H', Inv (X.blk s3 H3 scope ce fp) [] (wipe σ (own.map (·.2))) H' s' ∧ tn i s'.heap ∧ (∀ b ∈ fp, H' b = none) ∧ W i m H' := fun {s' H'} I' nx => by
        obtain ⟨m', hm, w'⟩ := hNx H' nx
        have pin' : ∀ b ∈ fp, ∀ o, s7.heap.get? b = some o → s'.heap.get? b = some o ∧ H' b = none := fun b hb o e =>
          let z := I'.pin (b, o) (List.mem_append_right _ (List.mem_append_right _ (mem_pinsAt hb e)))
          ⟨z.1, z.2.1⟩
        have hl : (wipe σ (own.map (·.2))).length = σ8.length := by rw [← hw8, wipe_length]
        refine ⟨m', hm, i + 1, H', (I'.unpinned (pins := [])).weak hl (fun j v e => ?_), T.keep _ _ _ st7 fun b hb o e => (pin' b hb o e).1, fun b hb => ?_, w'⟩
        · rw [← hw8] at e
          exact (wipe_some e).1
        · obtain ⟨o, e, _⟩ := T.obj _ _ st7 b hb
          exact (pin' b hb o e).2
      cases b with
      | false =>
        simp only [Bool.false_eq_true, if_false] at q9 ⊢
        exact fin I9 q9
      | true =>
        simp only [if_true] at q9 ⊢
        refine thnF (pe.run _ s9 σ8 H9 _ I9 q9) fun z s10 ⟨yv, H10, I10, r10, acc, hD10, hz10, nx⟩ => ?_
        exact app_ok (X := X.blk s3 H3 scope ce fp) I10 hD10 hz10 r10 fun s11 I11 => fin I11 nx
  exact codeAny_compStart_list loop (T.self X.A 0 _ _ _ st4 loop)
end
end L2
namespace DI
open PySem PySem.Spec PyProof.Rows
open L2 hiding ixN
section
variable {W : Wd} {R : Addr} {Ex : XK} {b : Bool} {k : Nat} {c : SC} {q : Kd} {F H F' H' F1 H1 H0 : Hp} {v : V} {d : D} {X : Cx} {e : E}
/-- a lambda of the law's own made -/
def tClam (W : Wd) (b : E) (qual : Str) : TE := fun _ H Q => LamX.Tabs W.T H ∧ ∀ f c' t i o1 H2, MadeD W.T H H2 qual (fun _ _ _ => o1) i f c' t → ¬ IsTbl o1 →
  (∀ F, F f = some o1 → F c' = some (LamX.CodeO c' qual) → F t = some (DefO t i) → W.lc.p b f c' t i F) → Q (.ref f) H2
theorem rd_clam {n : Nat} {b : E} (hl : W.clms n = some b) : Rd W R Ex k c (.clam n b) := by
  refine .plain (fun _ => rfl) rfl (fun x h => by cases x <;> first | rfl | exact (Bool.false_ne_true h).elim) fun x h => ?_
  cases x <;> try (exact (Bool.false_ne_true h).elim)
  rename_i pa z sc' pos
  obtain ⟨h1, h⟩ := ba (show (c.lls && (c.lam && (match paramsD pa with
      | some (a, _) => lamDB c.sc sc' a && (!c.N.contains a && chk b (toldSc c sc') (.e z))
      | none => false))) = true from h)
  obtain ⟨h2, h⟩ := ba h
  cases hpa : paramsD pa with
  | none => rw [hpa] at h; cases h
  | some ai =>
  obtain ⟨a, i⟩ := ai
  rw [hpa] at h
  obtain ⟨h3, h⟩ := ba h
  obtain ⟨h4, h5⟩ := ba h
  have h4 : c.N.contains a = false := by simpa using h4
  refine ⟨tClam W b (c.qual ++ "<lambda>"), fun X hX => ⟨fun pins s σ H Q I hq => ?_⟩, fun H0 F H σV σ r Q G S p => ⟨G.tabs, fun f c' t i o1 H2 M nt hlc => ?_⟩⟩
  · obtain ⟨hT, hq⟩ := hq
    obtain ⟨eq, cc, P, hcode, TB, hm, hu⟩ := hX.lm h2
    rw [← hX.base, ← hX.mg] at TB
    have L := lamD_by (by rw [hX.sc]; exact h3 : lamDB X.env.scope sc' a = true)
    rw [← eq] at hm hu
    refine lam_makeD (Ψ := PsiOf c b i) I TB hcode hm hu hT hpa ⟨a, hpa, h3, h4, h5⟩ (L.has I.ok) fun f c' t H1 s' I1 M => ?_
    refine ⟨.ref f, H1, I1, rfl, hq f c' t i (LamDO X.env.cells (X.env.qual ++ "<lambda>") (PsiOf c b i) f c' t) H1 ?_ nt_LamDO fun F e1 e2 e3 => ?_⟩
    · rw [← eq]; exact ⟨M.old, M.tbl, M.tabs, M.hc, M.nf, M.nt, M.hf, M.ht, M.ne, M.new⟩
    · rw [hX.lcx h1]
      rw [eq] at e1
      exact ⟨e1, e2, e3⟩
  · have p : PostE W R Ex .c F H Q (.ok (.fnv n [.non]) r) := p
    generalize hql : c.qual ++ "<lambda>" = qual at *
    have nF : F f = none := G.fNone M.nf
    have nTt : F t = none := G.fNone M.nt
    obtain ⟨a, e1, e2⟩ := G.row
    have fR : f ≠ R := fun z => by have := M.nf; rw [z, e1] at this; cases this
    have tR : t ≠ R := fun z => by have := M.nt; rw [z, e1] at this; cases this
    have cR : c' ≠ R := fun z => by
      have := M.old _ _ e1 nt_lst
      rw [← z, M.hc] at this
      cases this
    obtain ⟨nft, nfc, ntc⟩ := M.ne
    have at_ : ∀ b, b ≠ f → b ≠ t → b ≠ c' → upd (upd (upd F f o1) t (DefO t i)) c' (LamX.CodeO c' qual) b = F b := fun b h1 h2 h3 => by rw [upd_ne h3, upd_ne h2, upd_ne h1]
    have atf : upd (upd (upd F f o1) t (DefO t i)) c' (LamX.CodeO c' qual) f = some o1 := by rw [upd_ne nfc, upd_ne nft, upd_same]
    have att : upd (upd (upd F f o1) t (DefO t i)) c' (LamX.CodeO c' qual) t = some (DefO t i) := by rw [upd_ne ntc, upd_same]
    have atc : upd (upd (upd F f o1) t (DefO t i)) c' (LamX.CodeO c' qual) c' = some (LamX.CodeO c' qual) := upd_same
    have nt_cod : ∀ {o : HO} {x q}, o = LamX.CodeO x q → ¬ IsTbl o := fun {o x q} z ⟨_, t⟩ => by rw [z] at t; exact LamX.codeO_ne _ t
    have same : ∀ b o, H b = some o → ∀ x q, H2 b = some (LamX.CodeO x q) → o = LamX.CodeO x q := fun b o e x q e' => by
      by_cases t : IsTbl o
      · obtain ⟨o', e3, t'⟩ := M.tbl b o e t
        rw [e3] at e'
        cases e'
        exact absurd t' (nt_cod rfl)
      · have := M.old b o e t
        rw [this] at e'
        exact Option.some.inj e'
    have le : Le F (upd (upd (upd F f o1) t (DefO t i)) c' (LamX.CodeO c' qual)) := fun b o e => by
      have hbf : b ≠ f := ne_of_none e nF
      have hbt : b ≠ t := ne_of_none e nTt
      by_cases hbc : b = c'
      · subst hbc
        rw [atc, same b o (G.le _ _ e) _ _ M.hc]
      · rw [at_ b hbf hbt hbc]; exact e
    refine p (.ref f) (upd (upd (upd F f o1) t (DefO t i)) c' (LamX.CodeO c' qual)) H2 ⟨fun b o e => ?_, by rw [at_ R fR.symm tR.symm cR.symm]; exact G.fR, fun b o e => ?_, ⟨a, M.old _ _ e1 nt_lst, le.sqL e2⟩, M.tabs, fun x q hx => ?_⟩ ⟨le, fun b o e => ?_, fun b q1 q2 => ?_⟩ (.clm hl (hlc _ atf atc att))
    · by_cases hbc : b = c'
      · subst hbc; rw [atc] at e; rw [M.hc]; exact e
      · by_cases hbf : b = f
        · subst hbf; rw [atf] at e; rw [M.hf]; exact e
        · by_cases hbt : b = t
          · subst hbt; rw [att] at e; rw [M.ht]; exact e
          · rw [at_ b hbf hbt hbc] at e
            exact M.old _ _ (G.le _ _ e) (G.ft _ _ e)
    · by_cases hbc : b = c'
      · subst hbc; rw [atc] at e; exact nt_cod (Option.some.inj e).symm
      · by_cases hbf : b = f
        · subst hbf; rw [atf] at e; rw [← Option.some.inj e]; exact nt
        · by_cases hbt : b = t
          · subst hbt; rw [att] at e; rw [← Option.some.inj e]; exact nt_DefO
          · rw [at_ b hbf hbt hbc] at e; exact G.ft _ _ e
    · by_cases hbc : x = c'
      · rw [hbc, atc]; simp
      · by_cases hbf : x = f
        · rw [hbf, atf]; simp
        · by_cases hbt : x = t
          · rw [hbt, att]; simp
          · rw [at_ x hbf hbt hbc]
            rcases M.new x _ hx with z | z | z | z
            · exact absurd z hbf
            · exact absurd z hbt
            · exact absurd z hbc
            · cases e : H x with
              | none => exact absurd e z
              | some o =>
                have := same x o e _ _ hx
                subst this
                exact G.cod x q e
    · by_cases t : IsTbl o
      · obtain ⟨o', e3, t'⟩ := M.tbl b o e t
        exact ⟨o', e3, fun _ n => absurd t n, fun _ => t'⟩
      · exact ⟨o, M.old b o e t, fun _ _ => rfl, fun z => absurd z t⟩
    · by_cases hbc : b = c'
      · subst hbc
        cases e : H b with
        | none => rfl
        | some o =>
          have := same b o e _ _ M.hc
          subst this
          exact absurd q1 (G.cod b qual e)
      · by_cases hbf : b = f
        · rw [hbf]; exact M.nf
        · by_cases hbt : b = t
          · rw [hbt]; exact M.nt
          · rw [at_ b hbf hbt hbc] at q2; exact absurd q1 q2
/-- the bodies have readings -/
def RdT (W : Wd) (R : Addr) (k : Nat) : E → Prop
  | .told _ _ b => ∀ E c', Rd W R E (k - 2) c' b
  | .cons a r => RdT W R k a ∧ RdT W R k r
  | _ => True
def TelOk (W : Wd) (R : Addr) (k : Nat) (x : Str) : List Nat → E → Prop
  | [], .nil => True
  | n :: ns', .cons (.told y ns b) r => x = y ∧ (W.clms n = some b ∧ ∀ cs v F, ¬ W.fo n cs v F) ∧ ToldS W k x ns ∧ noB b ∧ (∀ E c', Rd W R E (k - 2) c' b) ∧ TelOk W R k x ns' r
  | _, _ => False
theorem telOk {x : Str} : ∀ (nums : List Nat) (bs : E), OkT W nums bs → OkE W k bs → RdT W R k bs → tellsX bs x = true → TelOk W R k x nums bs
  | [], .nil, _, _, _, _ => trivial
  | n :: ns', .cons (.told y ns b) r, h1, h2, h3, h4 => by
    obtain ⟨h4, h5⟩ := ba (show (decide (x = y) && tellsX r x) = true from h4)
    have := of_decide_eq_true h4
    subst this
    exact ⟨rfl, h1.1, h2.1.1, h2.1.2.1, h3.1, telOk ns' r h1.2 h2.2 h3.2 h5⟩
  | [], .cons _ _, h, _, _, _ => by cases h
theorem tells_key {i j : Nat} {nums : List Nat} {own : List (Str × Nat)} {bs : E} {x : Expr} (h : chk (.tells i j nums own bs) c (.e x) = true) : ∃ y p1 v p2 p3 v' p' u p4 sc' pos, x = .ListComp (.Call (.Name y p1) [.Name v p2] [] p3) [⟨.Name v' p', .Name u p4, [], 0⟩] sc' pos ∧
    c.lls = true ∧ c.lam = true ∧ blkC c.N c.sc sc' own = true ∧ (own.map (·.2)).all (fun k => decide (k < c.N.length)) = true ∧ (own.map (·.2)).contains j = true ∧ visB c u i = true ∧ chkT (blkSC c sc') (.nm j) (.Name v' p') = true ∧ glB (blkSC c sc') y = true ∧ visB (blkSC c sc') v j = true ∧ tellsX bs y = true := by
  cases x <;> try (exact (Bool.false_ne_true h).elim)
  rename_i x1 gs sc' pos
  cases x1 <;> try (exact (Bool.false_ne_true h).elim)
  rename_i f args kws p3
  cases f <;> try (exact (Bool.false_ne_true h).elim)
  rename_i y p1
  cases args with
  | nil => exact (Bool.false_ne_true h).elim
  | cons a as =>
  cases as with
  | cons _ _ => cases a <;> exact (Bool.false_ne_true h).elim
  | nil =>
  cases a <;> try (exact (Bool.false_ne_true h).elim)
  rename_i v p2
  cases kws with
  | cons _ _ => exact (Bool.false_ne_true h).elim
  | nil =>
  cases gs with
  | nil => exact (Bool.false_ne_true h).elim
  | cons g gs =>
  cases gs with
  | cons _ _ =>
    obtain ⟨t, it, fs, n⟩ := g
    cases t <;> try (exact (Bool.false_ne_true h).elim)
    cases it <;> try (exact (Bool.false_ne_true h).elim)
    cases fs with
    | cons _ _ => exact (Bool.false_ne_true h).elim
    | nil =>
      cases n with
      | negSucc _ => exact (Bool.false_ne_true h).elim
      | ofNat m => cases m <;> exact (Bool.false_ne_true h).elim
  | nil =>
  obtain ⟨t, it, fs, n⟩ := g
  cases t <;> try (exact (Bool.false_ne_true h).elim)
  rename_i v' p'
  cases it <;> try (exact (Bool.false_ne_true h).elim)
  rename_i u p4
  cases fs with
  | cons _ _ => exact (Bool.false_ne_true h).elim
  | nil =>
  cases n with
  | negSucc _ => exact (Bool.false_ne_true h).elim
  | ofNat m =>
  cases m with
  | succ _ => exact (Bool.false_ne_true h).elim
  | zero =>
  obtain ⟨h1, h⟩ := ba (show (c.lls && (c.lam && (blkC c.N c.sc sc' own && ((own.map (·.2)).all (fun k => decide (k < c.N.length)) && ((own.map (·.2)).contains j && (visB c u i && (chkT (blkSC c sc') (.nm j) (.Name v' p') &&
      (glB (blkSC c sc') y && (visB (blkSC c sc') v j && tellsX bs y))))))))) = true from h)
  obtain ⟨h2, h⟩ := ba h
  obtain ⟨h3, h⟩ := ba h
  obtain ⟨h4, h⟩ := ba h
  obtain ⟨h5, h⟩ := ba h
  obtain ⟨h6, h⟩ := ba h
  obtain ⟨h7, h⟩ := ba h
  obtain ⟨h8, h⟩ := ba h
  obtain ⟨h9, h10⟩ := ba h
  exact ⟨y, p1, v, p2, p3, v', p', u, p4, sc', pos, rfl, h1, h2, h3, h4, h5, h6, h7, h8, h9, h10⟩
/-- the reading of one of them told; σV: the names at the comprehension's start -/
def tElt (W : Wd) (c : SC) (k : Nat) (x : Str) (σV : L2.St) (j : Nat) : TE := fun σ2 H2 Q => ∃ (f c' t : Addr) (i : Int) (b : E) (ns : List (Nat × Str)), σ2[j]? = some (some (.ref f)) ∧ W.lc.p b f c' t i H2 ∧ ToldS W k x ns ∧
  TTold W ns (fun E HZ Q' => W.lc.p b f c' t i HZ ∧ ∀ z sc', chk b (toldSc c sc') (.e z) = true → ∃ tb : TE, (∀ X, XOk W (toldSc c sc') (k - 2) E X → PE X z tb) ∧ tb σV HZ Q') H2 Q
theorem pe_elt {x v : Str} {p1 p2 p3 : Pos} {j : Nat} {sc' : Scope} {C : Addr} {cl : List (Str × Addr)} {fp : List Addr} {pins : List (Addr × Obj)} {s : Shared} {σ : L2.St} (hX : XOk W c k Ex X) (h1 : c.lls = true) (h2 : c.lam = true) (hg : glB (blkSC c sc') x = true) (hv : visB (blkSC c sc') v j = true)
    (I : Inv X pins σ H s) (hfp : ∀ b ∈ fp, ∀ y c, X.env.cells.lookup y = some c → c ≠ b) :
    PE (X.blk s H sc' (compEnvC sc' cl C X.env) fp) (.Call (.Name x p1) [.Name v p2] [] p3) (tElt W c k x σ j) := by
  have hB := hX.blk s H sc' C cl fp
  refine ⟨fun pins2 s2 σ2 H2 Q I2 h => ?_⟩
  obtain ⟨f, c', t, i, b, ns, e1, e2, ts, htt⟩ := h
  obtain ⟨j', g, a, pg, bg, sg, dV, kV, doc, pm, cdv, ct, oc, an, od, osl, Ng, hk, hm, hkp, lk, hcg, hbd, Sg, hNg, hva, ha1, ha2, hG⟩ := ts.ex
  have hj : k - 2 = j' := by omega
  have hr : Room (j' + 2) X.A := by rw [← hk]; exact hX.room (by omega)
  obtain ⟨g1, g2⟩ := glB_of hg hB
  obtain ⟨v1, v2, v3⟩ := visB_of hv hB
  obtain ⟨eq, cc, P, hcode, TB, hmT, hu⟩ := hX.lm h2
  have at2 := (hX.lcx h1 b f c' t i H2).mp e2
  obtain ⟨a1, a2, a3⟩ := at2
  rw [← eq] at a1 a2
  refine (pe_tellE (X := X) (k := j') (TT := TTold W ns) (q := x) I hfp g1 (by rw [hX.mg]; exact hm) (by rw [hX.K]; exact hkp) (by rw [hX.K]; exact lk) (by rw [hX.K]; exact hcg) (by rw [hX.K]; exact hbd) Sg hNg hva
    (hG _ _ hX.prog hX.w hX.K hX.mg hX.base (hr.mono (by omega))) hr v1 v2 (not_debug v3).1 (not_debug v3).2.1 (not_debug g2).1 ha1 ha2).run pins2 s2 σ2 H2 Q I2 ⟨f, c', t, i, PsiOf c b i, e1, a2, fun pa z sc'' ⟨a, q1, q2, q3, q4⟩ => ⟨a, q1, lamD_by (by rw [hX.sc]; exact q2), fun jj y hy z => ?_⟩, ?_⟩
  · rw [hX.N] at hy
    subst z
    have : c.N.contains y = true := List.contains_iff_mem.mpr (List.mem_of_getElem? hy)
    rw [q3] at this; cases this
  · obtain ⟨t1, t2⟩ := htt
    obtain ⟨b1, b2, b3⟩ := (hX.lcx h1 b f c' t i H2).mp t1
    rw [← eq] at b1
    refine ⟨b1, b3, fun pa z sc'' ⟨a, q1, q2, q3, q4⟩ => ?_⟩
    obtain ⟨tb, pb, hb⟩ := t2 z sc'' q4
    rw [hj] at pb
    exact ⟨tb, fun A outer s H hr2 => pb _ (hX.toldC hr2), hb⟩
theorem told_cons {x : Str} {ns : List (Nat × Str)} {b r : E} {σ : St} {ρ rL : Rho} {l : List D} (h : ev (.cons (.told x ns b) r) σ ρ = .ok (.tup l) rL) :
    ∃ d r1 l', ev (.told x ns b) σ ρ = .ok d r1 ∧ ev r σ r1 = .ok (.tup l') rL ∧ l = d :: l' := by
  obtain ⟨d, r1, e1, h⟩ := bind_ok_inv h
  obtain ⟨l', r2, e2, h⟩ := bind_ok_inv h
  cases l' with
  | tup ds => cases h; exact ⟨d, r1, ds, e1, e2, rfl⟩
  | _ => cases h
theorem clm_of {n : Nat} {b : E} (hl : W.clms n = some b) (no : ∀ cs v F, ¬ W.fo n cs v F) {v : V} (h : Rep W R F v (.fnv n [.non])) : ∃ f c' t i, v = .ref f ∧ W.lc.p b f c' t i F := by
  cases h with
  | fnv h _ => exact (no _ _ _ h).elim
  | clm h hl' =>
    rw [hl] at h
    cases h
    exact ⟨_, _, _, _, rfl, hl'⟩
theorem elt_sat {x : Str} {ns : List (Nat × Str)} {b : E} {n j : Nat} (hl : W.clms n = some b) (no : ∀ cs v F, ¬ W.fo n cs v F) (ts : ToldS W k x ns) (nb : noB b) (hb : ∀ E c', Rd W R E (k - 2) c' b) {σV σ2 : L2.St} {σ : St} {r r' : Rho} {Q : VK}
    (lcm : ∀ b f c' t i, W.lc.p b f c' t i F → W.lc.p b f c' t i H)
    (G : Good W R F H r) (S : StOk W R H0 F H σV σ) (hv : σ2[j]? = some (some v)) (rv : Rep W R F v (.fnv n [.non])) (he : ev (.told x ns b) σ r = .ok d r') (q : ∀ u F' H', Good W R F' H' r' → Grow R F H F' H' → Rep W R F' u d → Q u H') : tElt W c k x σV j σ2 H Q := by
  obtain ⟨f, c', t, i, rfl, hp⟩ := clm_of hl no rv
  refine ⟨f, c', t, i, b, ns, hv, lcm _ _ _ _ _ hp, ts, lcm _ _ _ _ _ hp, fun z sc' hz => ?_⟩
  obtain ⟨tb, pb, hbs⟩ := (hb _ (toldSc c sc')).val z hz
  refine ⟨tb, pb, (hbs.toC (noB_ne nb)) H0 F H σV σ r _ G S ?_⟩
  have he : (match ev b σ r with
      | .ok d r => .ok (.tup [.str "told", d]) r
      | .exc x r => .lift ((ns.lookup x.c).map fun n => .tup (.str n :: x.ds)) r
      | .stuck => .stuck) = Rs.ok d r' := he
  cases hb' : ev b σ r with
  | stuck => rw [hb'] at he; cases he
  | ok d1 r1 =>
    rw [hb'] at he
    cases he
    intro v F' H' G' g' rv'
    refine ⟨by show 2 ≤ sizeLine; rw [sizeLine_eq]; decide, fun u hu => ?_⟩
    obtain ⟨G2, g2⟩ := G'.tup_new (xs := [.str "told", v]) hu
    refine q (.ref u) _ _ G2 (g'.trans g2) (.tup (.inl (.inl upd_same)) ?_ (.cons (.str _ told_okS) (.cons (rv'.mono g2.le) .nil)))
    show 2 ≤ sizeLine
    rw [sizeLine_eq]; decide
  | exc x1 r1 =>
    rw [hb'] at he
    have he : Rs.lift ((ns.lookup x1.c).map fun n => .tup (.str n :: x1.ds)) r1 = Rs.ok d r' := he
    cases hn : ns.lookup x1.c with
    | none => rw [hn] at he; cases he
    | some m =>
      rw [hn] at he
      cases he
      intro cls dd F' H' G' g' rx
      refine ⟨R, F', _, x1, m, G', rx, hn, fun v F2 H2 G2 g2 pk => ?_⟩
      exact q v F2 H2 G2 (g'.trans g2) pk
theorem tells_ok {y : Str} {σ : St} {x : Exc} {rL : Rho} : ∀ {nums : List Nat} {bs : E} {r : Rho}, TelOk W R k y nums bs → ev bs σ r = .exc x rL → False
  | [], .nil, _, _, h => by cases h
  | n :: ns', .cons (.told yy ns b) r, ρ, h, he => by
    obtain ⟨_, _, _, _, _, to⟩ := h
    have he : (ev (.told yy ns b) σ ρ).bind (fun (x : D) r1 => (ev r σ r1).bind fun (l : D) r => match l with
      | .tup ds => Rs.ok (D.tup (x :: ds)) r
      | _ => .stuck) = .exc x rL := he
    cases e1 : ev (.told yy ns b) σ ρ with
    | stuck => rw [e1] at he; cases he
    | exc x1 r1 =>
      have e1 : (match ev b σ ρ with
        | .ok d r => Rs.ok (D.tup [.str "told", d]) r
        | .exc x r => Rs.lift ((ns.lookup x.c).map fun n => D.tup (.str n :: x.ds)) r
        | .stuck => .stuck) = Rs.exc x1 r1 := e1
      cases e2 : ev b σ ρ with
      | stuck => rw [e2] at e1; cases e1
      | ok _ _ => rw [e2] at e1; cases e1
      | exc x2 r2 =>
        rw [e2] at e1
        have e1 : Rs.lift ((ns.lookup x2.c).map fun n => D.tup (.str n :: x2.ds)) r2 = Rs.exc x1 r1 := e1
        cases e3 : ns.lookup x2.c <;> rw [e3] at e1 <;> cases e1
    | ok d r1 =>
      rw [e1] at he
      have he : (ev r σ r1).bind (fun (l : D) r => match l with
        | .tup ds => Rs.ok (D.tup (d :: ds)) r
        | _ => .stuck) = .exc x rL := he
      cases e2 : ev r σ r1 with
      | stuck => rw [e2] at he; cases he
      | exc x2 r2 => exact tells_ok to e2
      | ok l r2 =>
        rw [e2] at he
        cases l <;> cases he
theorem telOk_cons {x : Str} {n : Nat} {ns : List Nat} {bs : E} (h : TelOk W R k x (n :: ns) bs) : ∃ nn b r, bs = .cons (.told x nn b) r ∧ (W.clms n = some b ∧ ∀ cs v F, ¬ W.fo n cs v F) ∧ ToldS W k x nn ∧ noB b ∧ (∀ E c', Rd W R E (k - 2) c' b) ∧ TelOk W R k x ns r := by
  cases bs with
  | cons a r =>
    cases a with
    | told y nn b => obtain ⟨rfl, h⟩ := h; exact ⟨nn, b, r, rfl, h⟩
    | _ => exact h.elim
  | _ => exact h.elim
theorem fnsB_cons {ns : List Nat} {d : D} {ds : List D} (h : fnsB ns (d :: ds) = true) : ∃ n nss, ns = n :: nss ∧ d = .fnv n [.non] ∧ fnsB nss ds = true := by
  cases ns with
  | nil => cases h
  | cons n nss =>
    unfold fnsB at h
    split at h
    · rename_i h1 h2; cases h1
    · rename_i h1 h2
      cases h1; cases h2
      obtain ⟨h3, h4⟩ := ba h
      exact ⟨_, _, rfl, by rw [of_decide_eq_true h3], h4⟩
    · cases h
theorem yes_then {A B : Hp → Prop} {H : Hp} {σ0 : L2.St} (h : A H) : tYes σ0 H fun b H3 => if b = true then A H3 else B H3 := h
theorem rd_tells (hk : 0 < k) {i j : Nat} {nums : List Nat} {own : List (Str × Nat)} {bs : E} (hO : OkT W nums bs) (hE : OkE W k bs) (hR : RdT W R k bs) : Rd W R Ex k c (.tells i j nums own bs) := by
  refine .plain (fun _ => rfl) rfl (fun x h => by obtain ⟨y, p1, v, p2, p3, v', p', u, p4, sc', pos, rfl, _⟩ := tells_key h; rfl) fun x h => ?_
  obtain ⟨y, p1, v, p2, p3, v', p', u, p4, sc', pos, rfl, h1, h2, h3, h4, h5, h6, h7, h8, h9, h10⟩ := tells_key h
  have TO := telOk nums bs hO hE hR h10
  have hit : chk (.var i) c (axI (.var i) (.Name u p4)) = true := h6
  obtain ⟨wi, pi, si, _⟩ := (rd_var (W := W) (R := R) (Ex := Ex) (k := k) (c := c) i).itr (.Name u p4) (.Name v' p') hit (fun z => by cases z)
  obtain ⟨g, pg, sg⟩ := tg_ok (W := W) (R := R) (Ex := NoX) (k := k) hk (.nm j) (.Name v' p') h7
  refine ⟨fun σ H Q => L2.tLc wi g tYes (tElt W c k y σ j) (own.map (·.2)) σ H Q, fun X hX => ⟨fun pins s σ H Q I hq => ?_⟩, fun H0 F H σV σ r Q G S p => ?_⟩
  · rw [eval_ListComp]
    refine lcI_core (hX.calm hk) (by rw [hX.N]; exact hX.nd) I (pi X hX) (by rw [hX.N, hX.sc]; exact blkOk_by h3) (fun s H C cl fp => pg _ (hX.blk s H sc' C cl fp)) (fun s H C cl fp => pts_nil) (fun s1 H1 C cl fp I1 hfp => pe_elt hX h1 h2 h8 h9 I1 hfp) (fun _ => rfl) hq fun D C s' m H' I' q hn f => ⟨m, hn, fun h'' sb => ?_⟩
    obtain ⟨f0, f1, f2, f3, f4, f5⟩ := f
    exact ⟨.ref D, H', I'.turned (t' := s'.toks) (fun b o hb e => (sb.2 b hb).trans e) f0 f1 f3 f4 f5, rfl, q⟩
  · have p : PostE W R Ex .n F H Q (match σ[i]? with
      | some (.val (.lst ds)) => if fnsB nums ds && decide (j < σ.length) then ((ev bs σ r).bind fun l r => match l with
        | .tup ds => .ok (.lst ds) r
        | _ => .stuck) else .stuck
      | _ => .stuck) := p
    refine si H0 F H σV σ r _ G S ?_
    show PostI W R Ex false F H _ (match σ[i]? with
      | some (.val d) => .ok d r
      | _ => .stuck)
    cases es : σ[i]? with
    | none => rw [es] at p; exact p.elim
    | some o =>
    rw [es] at p
    cases o with
    | val d0 =>
      cases d0 with
      | lst ds =>
        simp only at p ⊢
        cases hf : fnsB nums ds with
        | false => rw [hf] at p; exact p.elim
        | true =>
        rw [hf] at p
        by_cases hj : j < σ.length
        · have p : PostE W R Ex .n F H Q ((ev bs σ r).bind fun l r => match l with
            | .tup ds => .ok (.lst ds) r
            | _ => .stuck) := by simpa [hj] using p
          cases em : ev bs σ r with
          | stuck => rw [em] at p; exact p.elim
          | exc x r' => exact (tells_ok TO em).elim
          | ok L rL =>
          rw [em] at p
          cases L with
          | tup L =>
            have p : PostE W R Ex .n F H Q (.ok (.lst L) rL) := p
            refine ⟨ds, rfl, fun J F1 H1 G1 g1 wk hlen D hD => ?_⟩
            have DR : D ≠ R := G1.neR hD
            refine ⟨fun i m H2 => ∃ F2 r2 acc accD l ns' bs', i ≤ ds.length ∧ m = ds.length - i ∧ Good W R F2 H2 r2 ∧ Grow R F1 H1 F2 H2 ∧ H2 D = some (.lst acc) ∧ F2 D = none ∧ Reps W R F2 acc accD ∧ acc.length ≤ i ∧
              TelOk W R k y ns' bs' ∧ fnsB ns' (ds.drop i) = true ∧ ev bs' σ r2 = .ok (.tup l) rL ∧ accD ++ l = L, ⟨ds.length, F1, r, [], [], L, nums, bs, Nat.zero_le _, rfl, G1.new hD, ⟨Le.refl _, .new hD, fun b q1 q2 => absurd q1 q2⟩, upd_same, G1.fNone hD, .nil, Nat.le_refl _, TO, hf, em, rfl⟩, ?_⟩
            rintro i m H2 ⟨F2, r2, acc, accD, l, ns', bs', hi, rfl, G2, g2, hacc, fD, rs, hal, to, hm, he, hL⟩
            obtain ⟨w1, w2⟩ := wk i F2 H2 r2 G2 g2
            by_cases hlt : i < ds.length
            · right
              obtain ⟨d', hd'⟩ : ∃ d', ds[i]? = some d' := ⟨ds[i], by simp [hlt]⟩
              obtain ⟨go, yl⟩ := w1 d' hd'
              have hdrop : ds.drop i = d' :: ds.drop (i + 1) := by
                rw [List.drop_eq_getElem_cons hlt]
                congr 1
                have := List.getElem?_eq_some_iff.mp hd'
                exact this.2
              rw [hdrop] at hm
              obtain ⟨n, nss, rfl, rfl, hm'⟩ := fnsB_cons hm
              obtain ⟨ns, b, br, rfl, ⟨hl, no⟩, ts, nb, hb, to'⟩ := telOk_cons to
              obtain ⟨d1, r3, l', he1, he2, rfl⟩ := told_cons he
              refine ⟨go, fun H3 => ∃ F3 r5 acc accD l ns' bs', Good W R F3 H3 r5 ∧ Grow R F1 H1 F3 H3 ∧ H3 D = some (.lst acc) ∧ F3 D = none ∧ Reps W R F3 acc accD ∧ acc.length ≤ i + 1 ∧
                TelOk W R k y ns' bs' ∧ fnsB ns' (ds.drop (i + 1)) = true ∧ ev bs' σ r5 = .ok (.tup l) rL ∧ accD ++ l = L, fun H3 ⟨F3, r5, acc, accD, l, ns', bs', a1, a2, a3, a4, a5, a6, a7, a8, a9, a10⟩ => ⟨ds.length - (i + 1), by omega, F3, r5, acc, accD, l, ns', bs', hlt, rfl, a1, a2, a3, a4, a5, a6, a7, a8, a9, a10⟩, fun x H3 hy => ?_⟩
              obtain ⟨F3, G3, g3, rx⟩ := yl x H3 hy
              have S3' : StOk W R H0 F3 H3 σV σ := (((S.grow g1).grow g2).grow g3)
              have S3 : StOk W R H0 F3 H3 (wipe σV (own.map (·.2))) (killS σ (own.map (·.2))) := S3'.kill _
              refine sg H0 F3 H3 _ _ _ r2 x _ _ G3 S3 rx rfl fun σV' S4 hlen' hsame => ⟨?_, ?_⟩
              · rw [← wipe_wipe (σ := σV)]
                refine wipe_same hlen' fun jj hjj => hsame jj fun z => hjj ?_
                have : jj = j := by simpa [tgIx] using z
                rw [this]
                exact List.contains_iff_mem.mp h5
              · refine yes_then ?_
                have hjv : ((killS σ (own.map (·.2))).set j (.val (.fnv n [.non])))[j]? = some (.val (.fnv n [.non])) := by
                  rw [List.getElem?_set_self]
                  rw [killS_len]; exact hj
                obtain ⟨v0, e1, rv⟩ := S4.at_ j _ hjv
                refine elt_sat hl no ts nb hb (fun _ _ _ _ _ => W.lc.m _ _ _ _ _ _ _ G3.le) G3 S3' (join_some e1) rv he1 fun u F5 H5 G5 g5 ru => ?_
                have kD : H3 D = some (.lst acc) := g3.kept.at_ hacc DR nt_lst
                have fD4 : F3 D = none := g3.stays fD hacc
                have gg : Grow R F1 H1 F5 H5 := (g2.trans g3).trans g5
                refine ⟨acc, g5.kept.at_ kD DR nt_lst, by omega, F5, r3, acc ++ [u], accD ++ [d1], l', nss, br, ?_, ?_, upd_same, g5.stays fD4 kD, ((rs.mono g3.le).mono g5.le).append (.cons ru .nil), by rw [List.length_append]; show acc.length + 1 ≤ i + 1; omega, to', hm', he2, by rw [List.append_assoc, ← hL]; rfl⟩
                · exact G5.write (g5.kept.at_ kD DR nt_lst) nt_lst (fun _ _ z => by cases z) (fun _ z => by cases z) (g5.stays fD4 kD) DR
                · exact ⟨gg.le, fun b o h => by rw [upd_ne (ne_of_none h hD)]; exact gg.kept b o h, gg.new⟩
            · left
              have hie : ds.length = i := by omega
              refine ⟨w2 hie, ?_⟩
              rw [List.drop_eq_nil_of_le (by omega)] at hm
              cases ns' with
              | cons _ _ => cases hm
              | nil =>
              cases bs' with
              | nil =>
                cases he
                rw [List.append_nil] at hL
                subst hL
                exact p (.ref D) F2 H2 G2 (g1.trans g2) (.inr (.inl ⟨D, acc, accD, rfl, rfl, hacc, by omega, DR, rs, fD, fun _ => g1.kept.gone hD⟩))
              | _ => exact to.elim
          | _ => exact p.elim
        · simp [hj] at p
          exact p.elim
      | _ => exact p.elim
    | _ => exact p.elim
end
end DI
set_option Elab.async false
set_option linter.all false
set_option maxRecDepth 100000
/-! Ss: methods; every expression has a reading that is met. -/
namespace DI
open PySem PySem.Spec PyProof.Rows
open L2 hiding ixN
section
variable {W : Wd} {R : Addr} {Ex : XK} {b : Bool} {k : Nat} {c : SC} {q : Kd} {F H F' H' F1 H1 H0 : Hp} {v : V} {d : D} {X : Cx} {e : E}
/-- the type that a method is looked up in -/
def mtT : Mt → String
  | .join => "str" | .split => "str" | .count => "list" | .index => "list" | .get => "dict" | .replace => "str"
def mtId : Mt → String
  | .join => "str.join" | .split => "str.split" | .count => "list.count" | .index => "list.index" | .get => "dict.get" | .replace => "str.replace"
theorem okS_cps {x : Str} : PyData.strOk x = true ↔ ∀ c ∈ x.cps.toList, c < 0x110000 := by
  unfold PyData.strOk
  rw [Array.all_eq_true']
  exact ⟨fun h c hc => of_decide_eq_true (h c (Array.mem_toList_iff.mp hc)), fun h c hc => decide_eq_true (h c (Array.mem_toList_iff.mpr hc))⟩
theorem strOk_join {a : Str} (ha : PyData.strOk a = true) : ∀ {ys : List Str}, (∀ y ∈ ys, PyData.strOk y = true) → PyData.strOk (Str.join a ys) = true
  | [], _ => okS_cps.mpr fun c hc => by cases hc
  | [y], h => h y (List.mem_singleton.mpr rfl)
  | x :: y :: r, h => by
    have h1 := h x (List.mem_cons_self ..)
    have h2 := strOk_join ha (ys := y :: r) fun z hz => h z (List.mem_cons_of_mem _ hz)
    show PyData.strOk (x ++ a ++ Str.join a (y :: r)) = true
    unfold PyData.strOk at h1 h2 ha ⊢
    show (x.cps ++ a.cps ++ (Str.join a (y :: r)).cps).all _ = true
    rw [Array.all_append, Array.all_append, h1, h2, ha]; rfl
theorem okS_join {a : Str} {ys : List Str} (ha : okS a) (hy : ∀ y ∈ ys, okS y) (hl : (ys.map (·.length)).sum + ys.length * a.length ≤ 16777216) : okS (Txt.join a ys) := by
  rw [show Txt.join a ys = Str.join a ys from PySem.StrLaws.glued_eq_join a ys]
  refine ⟨Nat.le_trans (PySem.StrLaws.join_length_le a ys) ?_, strOk_join ha.2 fun y m => (hy y m).2⟩
  rw [sizeLine_eq]
  omega
theorem mt_join' (hK : X.K = W.K) : MtR X "str.join" (rMt W R Ex .n .join) := by
  intro pins s σ H x xs v us Q I rx rs ⟨F, r, dx, ds, G, bx, ps, h0⟩
  obtain ⟨d, e, h⟩ := h0.lift_some; clear h0
  cases dx <;> try (cases e)
  rename_i a
  match ds, e with
  | [y], e =>
    obtain ⟨es, e1, e2⟩ := Option.bind_eq_some_iff.mp (show ((seqD y).bind fun ds => (strsD ds).bind fun xs => if (xs.map (·.length)).sum + xs.length * a.length ≤ 16777216 then some (D.str (Txt.join a xs)) else none) = some d from e)
    obtain ⟨ys, e3, e4⟩ := Option.bind_eq_some_iff.mp e2
    split at e4
    · rename_i hl
      cases e4
      obtain ⟨u, rfl, pu⟩ := ps.one
      obtain ⟨rfl, ka⟩ := bx.str
      cases y <;> try (cases e1)
      · obtain ⟨p, vs, rfl, hs, l, rr⟩ := (BB.of pu).tup
        obtain ⟨rfl, hy⟩ := strs_of e3 rr
        exact mt_join pins s σ H _ _ v us Q I rx rs ⟨a, p, ys, rfl, rfl, .inr (by rw [hK]; exact G.le.sqT hs), hl, h.flat G (.str _ (okS_join ka hy hl)) rfl⟩
      · obtain ⟨p, vs, rfl, hs, l, rr⟩ := (BB.of pu).lst G.le
        obtain ⟨rfl, hy⟩ := strs_of e3 rr
        exact mt_join pins s σ H _ _ v us Q I rx rs ⟨a, p, ys, rfl, rfl, .inl (.of hs), hl, h.flat G (.str _ (okS_join ka hy hl)) rfl⟩
    · cases e4
theorem strs_reps {ys : List Str} (h : ∀ y ∈ ys, okS y) : Reps W R F (ys.map V.str) (ys.map D.str) := by
  induction ys with
  | nil => exact .nil
  | cons y ys ih => exact .cons (.str y (h y (List.mem_cons_self ..))) (ih fun z hz => h z (List.mem_cons_of_mem _ hz))
theorem mt_split' : MtR X "str.split" (rMt W R Ex .n .split) := by
  intro pins s σ H x xs v us Q I rx rs ⟨F, r, dx, ds, G, bx, ps, h0⟩
  obtain ⟨d, e, h⟩ := h0.lift_some; clear h0
  cases dx <;> try (cases e)
  rename_i a
  match ds, e with
  | [.str y], e =>
    have e : (if y.length ≠ 0 ∧ a.length + 2 ≤ sizeLine ∧ (Txt.split a y).length ≤ sizeLine ∧ (Txt.split a y).all okB = true then some (D.lst ((Txt.split a y).map D.str)) else none) = some d := e
    split at e
    · rename_i hl
      cases e
      obtain ⟨u, rfl, pu⟩ := ps.one
      obtain ⟨rfl, ka⟩ := bx.str
      obtain ⟨rfl, ky⟩ := (BB.of pu).str
      refine mt_split pins s σ H _ _ v us Q I rx rs ⟨a, y, rfl, rfl, by simpa using hl.1, hl.2.1, fun p hp => h.lst G (strs_reps fun z hz => okS_of (List.all_eq_true.mp hl.2.2.2 z hz)) ?_ hp⟩
      rw [List.length_map]
      exact hl.2.2.1
    · cases e
/-- what a method hands back: an item of its receiver, or something new -/
def mtK : Mt → Kd
  | .get => .c
  | _ => .n
theorem canLay_of {n : Nat} {d : D} {v : V} (hp : pureD n d = true) (le : Le F H) (h : Rep W R F v d) : (toPy d).canLay0 = true ∧ (toPy d).depth ≤ n := (h.dp le n hp).2
theorem cnt_toPys (x : D) : ∀ ds : List D, (toPys ds).countP (fun z => PyData.eqv z (toPy x)) = cntL x ds
  | [] => rfl
  | d :: ds => by
    have ih := cnt_toPys x ds
    simp only [toPys, List.countP_cons, cntL, ih]
    show _ + (if PyData.eqv (toPy d) (toPy x) = true then 1 else 0) = (if PyData.eqv (toPy d) (toPy x) = true then 1 else 0) + _
    omega
theorem mt_count' (hK : X.K = W.K) (hu : X.A.units + 65 < cLine) : MtR X "list.count" (rMt W R Ex .n .count) := by
  intro pins s σ H x xs v us Q I rx rs ⟨F, r, dx, ds, G, bx, ps, h0⟩
  obtain ⟨d, e, h⟩ := h0.lift_some; clear h0
  cases dx <;> try (cases e)
  rename_i es
  match ds, e with
  | [y], e =>
    have e : (if pureD 50 y && pureL 50 es then some (D.int (cntL y es)) else none) = some d := e
    split at e
    · rename_i hp
      cases e
      obtain ⟨p1, p2⟩ := ba hp
      obtain ⟨w, rfl, pw⟩ := ps.one
      obtain ⟨u, rfl, ru⟩ := rs.one
      obtain ⟨a, zs, rfl, hs, l, rr⟩ := bx.lst G.le
      cases rx
      obtain ⟨its, rv, ⟨⟨cls, dd, data, sl⟩, n, ho, hc, hdn, hd⟩, hlen⟩ := I.list (.inl (.inl hs))
      simp only at hc hd
      subst hc hd
      obtain ⟨a1, a2, a3⟩ := (BB.of pw).dp G.le p1
      obtain ⟨b1, b2, b3⟩ := Reps.dp G.le 50 p2 rr
      rw [← hK] at a1 b1
      obtain ⟨bs, r1⟩ := Dp.reads I (toPy y) w u a1 ru
      obtain ⟨as, h4⟩ := Dp.readsAll I (toPys es) _ its b1 rv
      have hmap : its.map (SeqAt.readOf s.heap) = toPys es := SeqAt.readsAll_map (toPys es) its as b2 h4
      refine call_meets PySem.F.slot_list_count ⟨_, ho, rfl⟩ PySem.F.entry_list_count (PySem.F.args_list_count_2 _ _)
        (SeqAt.list_countAt a its.toArray n dd sl u (fun z => PyData.eqv (SeqAt.readOf s.heap z) (toPy y))) ⟨ho, SeqAt.items_eqAt (vs := its.toArray) (show ReadsAll s.heap its.toArray.toList (toPys es) as from h4) r1 b2 a2 ?_, ?_⟩
      · have := Nat.min_le_right (PyData.depthAll (toPys es)) (toPy y).depth
        show X.A.units + 1 + min (PyData.depthAll (toPys es)) (toPy y).depth < cLine
        omega
      · refine ⟨.int (cntL y es : Nat), H, I.tok _, ⟨s.toks, ?_⟩, h.flat G (.int _) rfl⟩
        have : its.toArray.toList.countP (fun z => PyData.eqv (SeqAt.readOf s.heap z) (toPy y)) = cntL y es := by
          rw [← cnt_toPys, ← hmap, List.countP_map]
          rfl
        rw [this]
    · cases e
theorem idx_toPys (x : D) : ∀ (ds : List D) (j : Nat), idxL x ds = some j → (∃ z, (toPys ds)[j]? = some z ∧ PyData.eqv z (toPy x) = true) ∧ ∀ (m : Nat) (z' : PyData), m < j → (toPys ds)[m]? = some z' → PyData.eqv z' (toPy x) = false
  | d :: ds, j, h => by
    simp only [idxL] at h
    by_cases e : eqD d x = true
    · rw [if_pos e] at h
      cases h
      exact ⟨⟨toPy d, rfl, e⟩, fun m z' hm => absurd hm (Nat.not_lt_zero _)⟩
    · rw [if_neg e] at h
      obtain ⟨i, h1, rfl⟩ := Option.map_eq_some_iff.mp h
      obtain ⟨⟨z, h2, h3⟩, h4⟩ := idx_toPys x ds i h1
      refine ⟨⟨z, by simpa [toPys] using h2, h3⟩, fun m z' hm hz => ?_⟩
      cases m with
      | zero =>
        have hz : some (toPy d) = some z' := hz
        cases hz
        cases q : PyData.eqv (toPy d) (toPy x) with
        | false => rfl
        | true => exact absurd q e
      | succ m => exact h4 m z' (by omega) (by simpa [toPys] using hz)
theorem mt_index' (hK : X.K = W.K) (hu : X.A.units + 65 < cLine) : MtR X "list.index" (rMt W R Ex .n .index) := by
  intro pins s σ H x xs v us Q I rx rs ⟨F, r, dx, ds, G, bx, ps, h0⟩
  obtain ⟨d, e, h⟩ := h0.lift_some; clear h0
  cases dx <;> try (cases e)
  rename_i es
  · match ds, e with
    | [y], e =>
      have e : (if pureD 50 y && pureL 50 es then (idxL y es).map (fun (j : Nat) => D.int (j : Int)) else none) = some d := by simpa only [mtD] using e
      split at e
      · rename_i hp
        obtain ⟨j, e1, rfl⟩ := Option.map_eq_some_iff.mp e
        obtain ⟨p1, p2⟩ := ba hp
        obtain ⟨w, rfl, pw⟩ := ps.one
        obtain ⟨a, zs, rfl, hs, l, rr⟩ := bx.lst G.le
        obtain ⟨a1, a2, a3⟩ := (BB.of pw).dp G.le p1
        obtain ⟨b1, b2, b3⟩ := Reps.dp G.le 50 p2 rr
        rw [← hK] at a1 b1
        obtain ⟨⟨z, i1, i2⟩, i3⟩ := idx_toPys y es j e1
        refine mt_indexD hu pins s σ H _ _ v us Q I rx rs ⟨a, w, toPy y, toPys es, j, z, rfl, rfl, .lst (.inl (.inl hs)) b1, a1, ?_, shaped_of a2 a3 (by decide), i1, i2, i3, h.flat G (.int _) rfl⟩
        exact shaped_of (n := 51) (by simpa only [PyData.canLay0] using b2) (by simpa only [PyData.depth] using Nat.succ_le_succ b3) (by decide)
      · cases e
theorem mt_get' (hu : X.A.units + 65 < cLine) : MtR X "dict.get" (rMt W R Ex .c .get) := by
  intro pins s σ H x xs v us Q I rx rs ⟨F, r, dx, ds, G, bx, ps, h0⟩
  obtain ⟨d, e, h⟩ := h0.lift_some; clear h0
  cases dx <;> try (cases e)
  rename_i kds
  obtain ⟨a, kvs, rfl, hs, l, rr⟩ := bx.dic G.le
  cases rx
  match ds, e with
  | [kd], e =>
    have e : (if isKey kd then some ((lookD kd kds).getD .non) else none) = some d := e
    split at e
    · rename_i hk
      cases e
      obtain ⟨w, rfl, pw⟩ := ps.one
      obtain ⟨u, rfl, ru⟩ := rs.one
      obtain ⟨ky, rfl, rfl, _⟩ := DI.key_of hk ((BB.of pw).rep (by cases kd <;> first | rfl | exact (Bool.false_ne_true hk).elim))
      obtain ⟨z1, z2⟩ := valV_lookD ky rr
      refine d_get1 (by omega) I (DGet.k hs) ru fun w' s' I' rw' => ⟨(valV kvs ky).getD .non, H, I', rw', ?_⟩
      cases q : lookD (keyD ky) kds with
      | none => rw [q] at h; rw [z2 q]; exact h.flatC G .non
      | some dd =>
        rw [q] at h
        obtain ⟨v, e1, rv⟩ := z1 dd q
        rw [e1]
        exact h.flatC G rv
    · cases e
  | [kd, yd], e =>
    have e : (if isKey kd && notLD yd then some ((lookD kd kds).getD yd) else none) = some d := e
    split at e
    · rename_i hk
      cases e
      obtain ⟨hk, hy⟩ := ba hk
      obtain ⟨w, w2, rfl, pw, pw2⟩ := ps.two
      obtain ⟨u, u2, rfl, ru, ru2⟩ := rs.two
      obtain ⟨ky, rfl, rfl, _⟩ := DI.key_of hk ((BB.of pw).rep (by cases kd <;> first | rfl | exact (Bool.false_ne_true hk).elim))
      have ry : Rep W R F w2 yd := (BB.of pw2).rep (by cases yd <;> first | rfl | exact (Bool.false_ne_true hy).elim)
      obtain ⟨z1, z2⟩ := valV_lookD ky rr
      refine d_get2 (by omega) I (DGet.k hs) ru ru2 fun w' s' I' rw' => ⟨(valV kvs ky).getD w2, H, I', rw', ?_⟩
      cases q : lookD (keyD ky) kds with
      | none => rw [q] at h; rw [z2 q]; exact h.flatC G ry
      | some dd =>
        rw [q] at h
        obtain ⟨v, e1, rv⟩ := z1 dd q
        rw [e1]
        exact h.flatC G rv
    · cases e
theorem mt_call (hX : XOk W c k Ex X) {m : Mt} (hs : mtS m = true) : MtR X (mtId m) (rMt W R Ex (mtK m) m) := by
  cases m <;> first | exact (Bool.false_ne_true hs).elim | exact mt_join' hX.K | exact mt_split' | exact mt_count' hX.K hX.units | exact mt_index' hX.K hX.units | exact mt_get' hX.units
theorem few_of {a : Expr} {as : List Expr} {pos : Pos} {env : Env} (h : (a :: as).all notStar = true) (hl : as.length < 20) :
    ((backTo pos (starEach (a :: as) env)).all (fun x => !x.1) && (backToKw pos (keywordEach [] env)).all (fun x => x.1.isSome)
      && decide ((a :: as).length + ([] : List Keyword).length + (if ([] : List Keyword).isEmpty then 0 else 1) < 30)) = true := by
  have h1 : (backTo pos (starEach (a :: as) env)).all (fun x => !x.1) = true := by
    have := back_of (pos := pos) (env := env) h
    rw [List.all_eq_true]
    intro x hx
    have := List.any_eq_false.mp this x hx
    simpa using this
  have h2 : (backToKw pos (keywordEach [] env)).all (fun x => x.1.isSome) = true := rfl
  rw [h1, h2]
  simp
  omega
theorem rd_mt {m : Mt} {o es : E} (hs : mtS m = true) (ho : Rd W R Ex k c o) (h : Rd W R Ex k c es) : Rd W R Ex k c (.mt m o es) := by
  have key : ∀ x, chk (.mt m o es) c (.e x) = true → ∃ x1 p a as pos, x = .Call (.Attribute x1 (mtN m) p) (a :: as) [] pos ∧ (p.endLine == pos.line) = true ∧ as.length < 20 ∧ plainBase x1 = true ∧ chk o c (.e x1) = true ∧ chk es c (.es (a :: as)) = true := by
    intro x h
    cases x <;> try (exact (Bool.false_ne_true h).elim)
    rename_i f args kws pos
    cases f <;> try (exact (Bool.false_ne_true h).elim)
    rename_i x1 n p
    cases args <;> try (exact (Bool.false_ne_true h).elim)
    rename_i a as
    cases kws <;> try (exact (Bool.false_ne_true h).elim)
    obtain ⟨h1, h2⟩ := ba (show (decide (mtN m = n) && ((p.endLine == pos.line) && (decide (as.length < 20) && (plainBase x1 && (chk o c (.e x1) && chk es c (.es (a :: as))))))) = true from h)
    have : mtN m = n := of_decide_eq_true h1
    subst this
    obtain ⟨h2, h3⟩ := ba h2
    obtain ⟨h3, h4⟩ := ba h3
    obtain ⟨h4, h5⟩ := ba h4
    exact ⟨x1, p, a, as, pos, rfl, h2, of_decide_eq_true h3, h4, ba h5⟩
  refine .plain (fun _ => rfl) rfl (fun x h => by obtain ⟨x1, p, a, as, pos, rfl, _⟩ := key x h; rfl) fun x hc => ?_
  obtain ⟨x1, p, a, as, pos, rfl, h1, h2, h3, h4, h5⟩ := key x hc
  obtain ⟨to, po, so⟩ := ho.val x1 h4
  obtain ⟨t, pa, sa, _⟩ := h.arg _ h5
  have hst := chk_star h5
  obtain ⟨hs1, hs2⟩ := ba (show (notStar a && as.all notStar) = true from hst)
  refine ⟨tBM W.K (mtT m) (rMt W R Ex (mtK m) m) to t, fun X hX => ?_, ?_⟩
  · have hm := mt_call (R := R) hX hs
    rw [← hX.K]
    cases m <;> first
      | exact (Bool.false_ne_true hs).elim
      | exact pe_bm PySem.F.plainAttrs_str PySem.F.slot_str_join PySem.F.type_str_join hm (po X hX) (pa X hX) (base_of h3) (few_of hst h2) h1 (starEach_of hs1) (back_of hs2)
      | exact pe_bm PySem.F.plainAttrs_str PySem.F.slot_str_split PySem.F.type_str_split hm (po X hX) (pa X hX) (base_of h3) (few_of hst h2) h1 (starEach_of hs1) (back_of hs2)
      | exact pe_bm PySem.F.plainAttrs_list PySem.F.slot_list_count PySem.F.type_list_count hm (po X hX) (pa X hX) (base_of h3) (few_of hst h2) h1 (starEach_of hs1) (back_of hs2)
      | exact pe_bm PySem.F.plainAttrs_list PySem.F.slot_list_index PySem.F.type_list_index hm (po X hX) (pa X hX) (base_of h3) (few_of hst h2) h1 (starEach_of hs1) (back_of hs2)
      | exact pe_bm PySem.F.plainAttrs_dict PySem.F.slot_dict_get PySem.F.type_dict_get hm (po X hX) (pa X hX) (base_of h3) (few_of hst h2) h1 (starEach_of hs1) (back_of hs2)
  · have : kd (.mt m o es) = mtK m := by cases m <;> first | rfl | exact (Bool.false_ne_true hs).elim
    rw [this]
    intro H0 F H σV σ r Q G S p
    refine so.then_ G S (Post := PostE W R Ex (mtK m) F H Q) PostE.s PostE.x p fun dx r1 v F1 H1 G1 g1 S1 p1 q1 => ?_
    have q2 : PostE W R Ex (mtK m) F H Q (if rcvD m dx then (ev es σ r1).bind fun l r => (match l with
      | .tup ds => .lift (mtD m dx ds) r
      | _ => .stuck) else .stuck) := q1
    by_cases hr : rcvD m dx = true
    · rw [if_pos hr] at q2
      refine ⟨?_, ?_⟩
      · cases m <;> first | exact (Bool.false_ne_true hs).elim | skip
        all_goals cases dx <;> first | exact (Bool.false_ne_true hr).elim | skip
        all_goals first
          | (rw [(p1.bb.str).1]; rfl)
          | (obtain ⟨a, xs, rfl, hs', l, rr⟩ := p1.bb.lst G1.le; exact .inl ⟨rfl, xs, .inl (.inl hs')⟩)
          | (obtain ⟨a, xs, rfl, hs', l, rr⟩ := p1.bb.dic G1.le; exact .inr (.inr (.inl ⟨rfl, .inl ⟨xs, hs'⟩⟩)))
      · refine sa.then_ G1 S1 (Post := PostE W R Ex (mtK m) F1 H1 Q) PostE.s PostE.x (PostE.grow g1 q2) (fun d r' hd => ?_) fun ds r2 vs F2 H2 G2 g2 S2 p2 q2 => ⟨F2, r2, dx, ds, G2, (p1.grow g2).bb, p2.bb, PostE.grow g2 q2⟩
        cases d <;> first | exact fun z => z | exact absurd ⟨_, rfl⟩ hd
    · rw [if_neg hr] at q2; exact q2.elim
/-! ### every expression -/
theorem kLe_of_noB {q : Kd} (b : Bool) (h : b = true → q ≠ .b) : kLe q (kdI b) := by
  cases b with
  | false => cases q <;> trivial
  | true => cases q <;> first | trivial | exact absurd rfl (h rfl)
theorem Rd.only (hv : ∀ x, chk e c (.e x) = false) (ha : ∀ xs, chk e c (.es xs) = false)
    (hi : ∀ x tg, chk e c (axI e x) = true → (needT e = true → isTup tg = true) → ∃ wi, (∀ X, XOk W c k Ex X → PI X tg x wi) ∧ SatI W R Ex false wi (ev e) ∧ (noB e → SatI W R Ex true wi (ev e))) : Rd W R Ex k c e where
  val := fun x h => by rw [hv x] at h; cases h
  tst := fun x h => by rw [hv x] at h; cases h
  arg := fun x h => by rw [ha x] at h; cases h
  prs := fun ks vs h => by rw [ha _] at h; cases h
  prv := fun v ks vs h => by rw [ha _] at h; cases h
  itr := hi
mutual
theorem rdk (wok : WOk W) : ∀ (e : E) (k : Nat) (Ex : XK) (c : SC), OkE W k e → Rd W R Ex k c e
  | .var i, _, _, _, _ => rd_var i
  | .own i, _, _, _, _ => rd_own i
  | .non, _, _, _, _ => rd_non
  | .bl b, _, _, _, _ => rd_bl b
  | .int i, _, _, _, _ => rd_int i
  | .str x, _, _, _, _ => rd_str x
  | .glob x d, _, _, _, h => rd_glob x d h
  | .op o a b, k, Ex, c, h => rd_op o (rdk wok a k Ex c h.1) (rdk wok b k Ex c h.2)
  | .neg a, k, Ex, c, h => rd_neg (rdk wok a k Ex c h)
  | .cmp o a b, k, Ex, c, h => rd_cmp o (rdk wok a k Ex c h.1) (rdk wok b k Ex c h.2)
  | .isin n a b, k, Ex, c, h => rd_isin n (rdk wok a k Ex c h.1) (rdk wok b k Ex c h.2)
  | .chain o p a b d, k, Ex, c, h => rd_chain o p (rdk wok a k Ex c h.1) (rdk wok b k Ex c h.2.1) (rdk wok d k Ex c h.2.2)
  | .and a b, k, Ex, c, h => rd_and (rdk wok a k Ex c h.1) (rdk wok b k Ex c h.2)
  | .or a b, k, Ex, c, h => rd_or (rdk wok a k Ex c h.1) (rdk wok b k Ex c h.2)
  | .not a, k, Ex, c, h => rd_not (rdk wok a k Ex c h)
  | .ife d a b, k, Ex, c, h => rd_ife (rdk wok d k Ex c h.1) (rdk wok a k Ex c h.2.1) (rdk wok b k Ex c h.2.2)
  | .nil, _, _, _, _ => rd_nil
  | .cons a r, k, Ex, c, h => rd_cons (rdk wok a k Ex c h.1) (rdk wok r k Ex c h.2)
  | .tup es, k, Ex, c, h => rd_tup h.1 (rdk wok es k Ex c h.2)
  | .lst es, k, Ex, c, h => rd_lst h.1 (rdk wok es k Ex c h.2)
  | .dsp es, k, Ex, c, h => rd_dsp h.1 (rdk wok es k Ex c h.2)
  | .ix a i, k, Ex, c, h => rd_ix (rdk wok a k Ex c h.1) (rdk wok i k Ex c h.2)
  | .sl a none none, k, Ex, c, h => rd_sl (rdk wok a k Ex c h.1) (fun e' q => by cases q) (fun e' q => by cases q)
  | .sl a (some lo) none, k, Ex, c, h => rd_sl (rdk wok a k Ex c h.1) (fun e' q => by cases q; exact rdk wok lo k Ex c h.2.1) (fun e' q => by cases q)
  | .sl a none (some hi), k, Ex, c, h => rd_sl (rdk wok a k Ex c h.1) (fun e' q => by cases q) (fun e' q => by cases q; exact rdk wok hi k Ex c h.2.2)
  | .sl a (some lo) (some hi), k, Ex, c, h => rd_sl (rdk wok a k Ex c h.1) (fun e' q => by cases q; exact rdk wok lo k Ex c h.2.1) (fun e' q => by cases q; exact rdk wok hi k Ex c h.2.2)
  | .call x g es, k, Ex, c, h => rd_call h.1.2 h.1.1 h.2.1 (rdk wok es k Ex c h.2.2)
  | .make x g es, k, Ex, c, h => rd_make h.1 h.2.1 (rdk wok es k Ex c h.2.2)
  | .mcall _ _ _ _ _, _, _, _, h => h.elim
  | .bi b es, k, Ex, c, h => by
    cases hb : bi2 b with
    | none => exact rd_bi wok h.1.2 h.1.1 hb (rdk wok es k Ex c h.2)
    | some z => exact rd_bi2 wok h.1.2 hb (rdk wok es k Ex c h.2)
  | .mt m o es, k, Ex, c, h => rd_mt h.1 (rdk wok o k Ex c h.2.1) (rdk wok es k Ex c h.2.2)
  | .isi a ts, k, Ex, c, h => rd_isi wok (rdk wok a k Ex c h)
  | .fld o cn j f, k, Ex, c, h => rd_fld h.1 h.2.1 (rdk wok o k Ex c h.2.2)
  | .comp own tg it none elt, k, Ex, c, h => rd_comp h.1.2 h.2.2.1 (rdk wok it k Ex c h.1.1) (fun sc' e' q => by cases q) fun sc' => rdk wok elt k NoX (blkSC c sc') h.2.2.2
  | .comp own tg it (some e) elt, k, Ex, c, h => rd_comp h.1.2 h.2.2.1 (rdk wok it k Ex c h.1.1) (fun sc' e' q => by cases q; exact rdk wok e k NoX (blkSC c sc') h.2.1) fun sc' => rdk wok elt k NoX (blkSC c sc') h.2.2.2
  | .lam n ps g, k, Ex, c, h => rd_lam wok h
  | .lcall i fv es, k, Ex, c, h => rd_lcall wok h.1.2 h.1.1 h.2.2.1 h.2.2.2 (rdk wok es k Ex c h.2.1)
  | .rowi a j, k, Ex, c, h => rd_rowi (rdk wok a k Ex c h)
  | .rowlen a, k, Ex, c, h => rd_rowlen wok (rdk wok a k Ex c h)
  | .rowix a i, k, Ex, c, h => rd_rowix (rdk wok a k Ex c h.1) (rdk wok i k Ex c h.2)
  | .iso a cn y, k, Ex, c, h => rd_iso wok h.1 (rdk wok a k Ex c h.2)
  | .isx i ks cs y, _, _, _, h => rd_isx wok h
  | .xf i js f, _, _, _, h => rd_xf h
  | .rp a, k, Ex, c, h => rd_rp wok (rdk wok a k Ex c h)
  | .gcall x g es, k, Ex, c, h => rd_gcall h.1.2 h.1.1 h.2.1 (rdk wok es k Ex c h.2.2)
  | .told x ns e, k, Ex, c, h => rd_told wok h.1 h.2.1 (fun E c' => rdk wok e (k - 2) E c' h.2.2)
  | .clam n b, _, _, _, h => rd_clam h
  | .tells i j nums own bs, k, Ex, c, h => rd_tells h.1 h.2.1 h.2.2 (rdT wok bs k h.2.2)
  | .rng1 a, k, Ex, c, h => .only (fun _ => rfl) (fun _ => rfl) fun x tg hc _ => by
    obtain ⟨wi, h1, h2⟩ := (rd_rng1 (c := c) (Ex := Ex) wok (rdk wok a k Ex c h)).2 x tg hc
    exact ⟨wi, h1, h2 false, fun _ => h2 true⟩
  | .rng2 a b, k, Ex, c, h => .only (fun _ => rfl) (fun _ => rfl) fun x tg hc _ => by
    obtain ⟨wi, h1, h2⟩ := (rd_rng2 (c := c) (Ex := Ex) wok (rdk wok a k Ex c h.1) (rdk wok b k Ex c h.2)).2 x tg hc
    exact ⟨wi, h1, h2 false, fun _ => h2 true⟩
  | .rng3 a b d, k, Ex, c, h => .only (fun _ => rfl) (fun _ => rfl) fun x tg hc _ => by
    obtain ⟨wi, h1, h2⟩ := rd_rng3 (c := c) (Ex := Ex) wok (rdk wok a k Ex c h.1) (rdk wok b k Ex c h.2.1) (rdk wok d k Ex c h.2.2) x tg hc
    exact ⟨wi, h1, h2 false, fun _ => h2 true⟩
  | .enum a, k, Ex, c, h => .only (fun _ => rfl) (fun _ => rfl) fun x tg hc ht => by
    obtain ⟨wi, h1, h2⟩ := (rd_enum (c := c) (Ex := Ex) wok (rdk wok a k Ex c h)).2 x tg hc (ht rfl)
    exact ⟨wi, h1, h2 false (kLe_of_noB _ fun z => by cases z), fun nb => h2 true (kLe_of_noB _ fun _ => noB_ne (e := a) nb)⟩
  | .zip a b, k, Ex, c, h => .only (fun _ => rfl) (fun _ => rfl) fun x tg hc ht => by
    obtain ⟨wi, h1, h2⟩ := (rd_zip (c := c) (Ex := Ex) wok (rdk wok a k Ex c h.1) (rdk wok b k Ex c h.2)).2 x tg hc (ht rfl)
    refine ⟨wi, h1, h2 false (kLe_of_noB _ fun z => by cases z) (kLe_of_noB _ fun z => by cases z), fun nb => h2 true (kLe_of_noB _ fun _ q => ?_) (kLe_of_noB _ fun _ q => ?_)⟩
    · have nb : kd (.zip a b) ≠ .b := noB_ne nb
      exact nb (by simp only [kd, q])
    · have nb : kd (.zip a b) ≠ .b := noB_ne nb
      exact nb (by simp only [kd, q]; cases kd a <;> rfl)
  | .zip3 a b d, k, Ex, c, h => .only (fun _ => rfl) (fun _ => rfl) fun x tg hc ht => by
    obtain ⟨wi, h1, h2⟩ := (rd_zip3 (c := c) (Ex := Ex) wok (rdk wok a k Ex c h.1) (rdk wok b k Ex c h.2.1) (rdk wok d k Ex c h.2.2)).2 x tg hc (ht rfl)
    refine ⟨wi, h1, h2 false (kLe_of_noB _ fun z => by cases z) (kLe_of_noB _ fun z => by cases z) (kLe_of_noB _ fun z => by cases z), fun nb => h2 true (kLe_of_noB _ fun _ q => ?_) (kLe_of_noB _ fun _ q => ?_) (kLe_of_noB _ fun _ q => ?_)⟩
    · have nb : kd (.zip3 a b d) ≠ .b := noB_ne nb
      exact nb (by simp only [kd, q])
    · have nb : kd (.zip3 a b d) ≠ .b := noB_ne nb
      exact nb (by simp only [kd, q]; cases kd a <;> rfl)
    · have nb : kd (.zip3 a b d) ≠ .b := noB_ne nb
      exact nb (by simp only [kd, q]; cases kd a <;> cases kd b <;> rfl)
theorem rdT (wok : WOk W) : ∀ (e : E) (k : Nat), OkE W k e → RdT W R k e
  | e, k, h => by
    cases e with
    | cons a r => exact ⟨rdT wok a k h.1, rdT wok r k h.2⟩
    | told x ns b => exact fun E c' => rdk wok b (k - 2) E c' h.2.2
    | _ => exact trivial
end
theorem rd (wok : WOk W) (e : E) (Ex : XK) (c : SC) (h : OkE W k e) : Rd W R Ex k c e := rdk wok e k Ex c h
end
end DI
set_option Elab.async false
set_option linter.all false
set_option maxRecDepth 100000
/-! St: the statements' text held against the small language; rules for several targets. -/
namespace DI
open PySem PySem.Spec PyProof.Rows
open L2 hiding ixN

inductive Sx where | s (st : Stmt) | b (l : List Stmt)
def isGh : S → Bool
  | .frz _ => true
  | .kill _ => true
  | _ => false
def noTupV : Expr → Bool
  | .Tuple _ _ _ => false
  | _ => true
def allFold : Expr → Bool
  | .Tuple xs _ _ => xs.all (foldedForSure 8)
  | _ => false
/-- some name is no plain local one -/
def cellT (c : SC) (ts : List Expr) : Bool := ts.any fun t => match t with
  | .Name y _ => !decide (c.sc.names.lookup y = some .local)
  | _ => true
def tg1 (c : SC) (t x : Expr) : Bool := match t with
  | .Name _ _ => true
  | .Tuple ts _ _ => noTupV x || ((!(ts.length == 2 || ts.length == 3) || allFold x) || cellT c ts)
  | _ => false
/-- local names on one line -/
def nmsB (c : SC) : List (Nat × Bool) → List Expr → Bool
  | [], [] => true
  | (i, _) :: l, .Name x _ :: r => decide (c.N[i]? = some x) && (decide (c.sc.names.lookup x = some .local) && nmsB c l r)
  | _, _ => false
def onLine (l : Nat) : Expr → Bool
  | .Name _ p => p.line == l
  | _ => false
def nmOf : Expr → Str
  | .Name x _ => x
  | _ => ""
/-- the names are stored from the right (two or three of them) -/
def swapB (c : SC) (ts xs : List Expr) : Bool :=
  (ts.length == 2 || ts.length == 3) && xs.length == ts.length && xs.all notStar && (match c.sc.kind with | .function => true | _ => false) && ts.all (onLine ((ts.head?.map (·.pos.line)).getD 0)) &&
    (ts.map nmOf).eraseDups.length == ts.length && !(xs.all (foldedForSure 8)) && !(xs.all (constantsAlone 8))
def allSelf (c : SC) : List Str → List Expr → Bool
  | [], [] => true
  | f :: fs, .Attribute (.Name y _) g _ :: r => decide (f = g) && (visB c y 0 && allSelf c fs r)
  | _, _ => false
def noTells : E → Bool
  | .tells _ _ _ _ _ => false
  | _ => true
def chkS : S → SC → Sx → Bool
  | .nil, _, .b [] => true
  | .cons a r, c, .b l => if isGh a then chkS r c (.b l) else (match l with | st :: l => chkS a c (.s st) && chkS r c (.b l) | [] => false)
  | .skip, _, .s (.Pass _) => true
  | .skip, _, .s (.Expr (.Constant (.str _) _ _) _) => true
  | .set tg e, c, .s (.Assign [t] x _) => tg1 c t x && (chkT c tg t && (noTells e && chk e c (.e x)))
  | .setO i e, c, .s (.Assign [.Name y _] x _) => locB c y i && (noTells e && chk e c (.e x))
  | .setT own es, c, .s (.Assign [.Tuple ts _ _] (.Tuple xs _ _) _) => swapB c ts xs && (nmsB c own ts && chk es c (.es xs))
  | .app i e, c, .s (.Expr (.Call (.Attribute (.Name y _) m p) [a] [] q) _) => decide (m = "append") && (visB c y i && ((p.endLine == q.line) && (notStar a && chk e c (.e a))))
  | .ext i e, c, .s (.Expr (.Call (.Attribute (.Name y _) m p) [a] [] q) _) => decide (m = "extend") && (visB c y i && ((p.endLine == q.line) && (notStar a && chk e c (.e a))))
  | .put i k e, c, .s (.Assign [.Subscript (.Name y _) kx _] x _) => visB c y i && (notSlice kx && (notComp x && (chk k c (.e kx) && chk e c (.e x))))
  | .rowset i j e, c, .s (.Assign [.Subscript (.Name y _) (.Constant (.int z) _ _) _] x _) => decide (z = (j : Int)) && (visB c y i && (notComp x && chk e c (.e x)))
  | .expr e, c, .s (.Expr x _) => notComp x && chk e c (.e x)
  | .ret e, c, .s (.Return (some x) _) => chk e c (.e x)
  | .retN, _, .s (.Return none _) => true
  | .ifs e a b, c, .s (.If x l1 l2 _) => chk e c (.e x) && (chkS a c (.b l1) && chkS b c (.b l2))
  | .fors tg it body _, c, .s (.For t i l [] _) => (!needT it || isTup t) && (notSet i && (chk it c (axI it i) && (chkT c tg t && chkS body c (.b l))))
  | .nev, _, .s _ => true
  | .raise x _ _ es, c, .s (.Raise (some (.Call (.Name y _) (a :: as) [] _)) none _) => decide (x = y) && (glB c y && chk es c (.es (a :: as)))
  | .aug i e, c, .s (.AugAssign (.Name y _) .Add x _) => locB c y i && chk e c (.e x)
  | .brk, _, .s (.Break _) => true
  | .cnt, _, .s (.Continue _) => true
  | .fset _ _ f e, c, .s (.Assign [.Attribute (.Name y _) g _] x _) => decide (f = g) && (visB c y 0 && (notComp x && chk e c (.e x)))
  | .fsets _ _ fs e, c, .s (.Assign [.Tuple ts _ _] x _) => noTupV x && (allSelf c fs ts && chk e c (.e x))
  | _, _, _ => false
/-- what must be known for a statement's reading -/
def allF : List Bool → Prop
  | [] => True
  | b :: bs => b = false ∧ allF bs
/-- one list of its own at most -/
def oneT : List Bool → Prop
  | [] => True
  | b :: bs => (match b with | true => allF bs | false => oneT bs)
/-- an own exception's class -/
structure ExcS (W : Wd) (x : Str) (c : Nat) : Prop where
  ex : ∃ fI cda cc qual pa bd sc, W.mg x = some (.ref (W.ca c)) ∧ SupC W.P W.K (W.ca c) fI cda cc (W.cf c) qual pa bd sc ∧ SupT (W.cf c) pa sc ∧ supB (W.cf c) bd = true
/-- several names ask for a calm frame -/
def tgK (k : Nat) : Tg → Prop
  | .nm _ => True
  | _ => 0 < k
def OkS (W : Wd) (k : Nat) : S → Prop
  | .cons a r => OkS W k a ∧ OkS W k r
  | .set tg e => (noB e ∧ tgK k tg) ∧ OkE W k e
  | .setO _ e => kd e = .n ∧ OkE W k e
  | .setT own es => (oneT (own.map (·.2)) ∧ 0 < k) ∧ okM (own.map (·.2)) es ∧ OkE W k es
  | .app _ e => noB e ∧ OkE W k e
  | .ext _ e => OkE W k e
  | .put _ k' e => OkE W k k' ∧ noB e ∧ OkE W k e
  | .rowset _ _ e => OkE W k e
  | .expr e => OkE W k e
  | .ret e => noB e ∧ OkE W k e
  | .ifs c a b => OkE W k c ∧ OkS W k a ∧ OkS W k b
  | .fors _ it body _ => (noB it ∧ 0 < k) ∧ OkE W k it ∧ OkS W k body
  | .raise x c n es => (1 < k ∧ n = (W.cf c).length ∧ ExcS W x c) ∧ noBs es ∧ OkE W k es
  | .aug _ e => OkE W k e
  | .fset c j f e => noB e ∧ FldS W c j f ∧ OkE W k e
  | .fsets c j fs e => (noB e ∧ 0 < k) ∧ (∀ i f, fs[i]? = some f → FldS W c (j + i) f) ∧ OkE W k e
  | _ => True
section
variable {X : Cx}
/-! ### a, b = x, y: local names, stored from the right -/
def setV (σ : L2.St) : List Nat → List V → L2.St
  | i :: is, v :: vs => (setV σ is vs).set i (some v)
  | _, _ => σ
def tParN (is : List Nat) (ta : TA) : TS := fun D σ H => ta σ H fun vs H1 => vs.length = is.length ∧ D.nx (setV σ is vs) H1
theorem bind_all {pins : List (Addr × Obj)} {H : Hp} {E : Value → Shared → Prop} (hN : X.N.Nodup) : ∀ (is : List Nat) (xs : List Str) (vs : List V) (us : List Value) (σ : L2.St) (s : Shared) (Q : Unit → Shared → Prop) (rest : List (Value → Sem Unit)) (ur : List Value),
    is.length = xs.length → (∀ (j i : Nat) (x : Str), is[j]? = some i → xs[j]? = some x → X.N[i]? = some x ∧ X.env.scope.names.lookup x = some .local) → Vals vs us → vs.length = is.length → Inv X pins σ H s →
    (∀ s', Inv X pins (setV σ is vs) H s' → wpAny (model X.prog X.w) X.A (assignInOrder rest ur) Q E s') →
    wpAny (model X.prog X.w) X.A (assignInOrder ((xs.map fun x => fun v => bindName X.env x v).reverse ++ rest) (us.reverse ++ ur)) Q E s := by
  intro is
  induction is with
  | nil =>
    intro xs vs us σ s Q rest ur h1 h2 r h3 I q
    cases xs with
    | cons _ _ => simp at h1
    | nil =>
      cases vs with
      | cons _ _ => simp at h3
      | nil => cases r; exact q s I
  | cons i is ih =>
    intro xs vs us σ s Q rest ur h1 h2 r h3 I q
    cases xs with
    | nil => simp at h1
    | cons x xs =>
      cases vs with
      | nil => simp at h3
      | cons v vs =>
        cases r with
        | @cons _ u _ us' ru rr =>
          obtain ⟨a1, a2⟩ := h2 0 i x rfl rfl
          rw [List.map_cons, List.reverse_cons, List.reverse_cons, List.append_assoc, List.append_assoc]
          refine ih xs vs us' σ s Q _ _ (by simpa using h1) (fun j i' x' e1 e2 => h2 (j + 1) i' x' e1 e2) rr (by simpa using h3) I fun s' I' => ?_
          show wpAny _ _ (assignInOrder ((fun v => bindName X.env x v) :: rest) (u :: ur)) Q E s'
          exact assignInOrder_cons (wpAny_bindName (store_ok I' hN a1 (.inl a2) ru (fun s2 I2 => q s2 I2) (.inr a2)))
theorem ps_parN {is : List Nat} {ts es : List Expr} {ta : TA} {kt k2 : Nat} {pt pt2 pos : Pos} {xs : List Str} (hc : X.calm = true) (hN : X.N.Nodup) (hl : is.length = xs.length) (h3 : is.length ≤ 3)
    (hx : ∀ (j i : Nat) (x : Str), is[j]? = some i → xs[j]? = some x → X.N[i]? = some x ∧ X.env.scope.names.lookup x = some .local) (ha : PA X es ta)
    (hw : swappedStores [.Tuple ts kt pt] (.Tuple es k2 pt2) X.env = pure (some xs)) :
    PS X (.Assign [.Tuple ts kt pt] (.Tuple es k2 pt2) pos) (tParN is ta) := by
  refine ⟨fun pins s σ H D I h => ?_⟩
  rw [exec_Assign_arm]
  refine wpAny_bind (wpAny_standAt ?_)
  show wpAny _ _ ((pure false : Sem Bool) >>= _) _ _ _
  refine wpAny_bind (wpAny_pure ?_)
  rw [if_neg (by decide)]
  refine wpAny_bind (Tuple_ (thn (ha.run _ pins s σ H _ I h) fun us s1 ⟨vs, H1, I1, r1, q1⟩ => ?_))
  obtain ⟨hvl, q1⟩ := q1
  have hul : us.length = xs.length := by rw [← r1.length, hvl, hl]
  refine wpAny_newObj_type ?_ ?_
  · have I2 : Inv X pins σ H1 { s1 with heap := s1.heap.push { cls := .type "tuple", data := .seq us.toArray } } := I1.kept (t' := s1.toks) fun b o e => Heap.get?_push_of_some _ e
    rw [hw]
    refine wpAny_bind (wpAny_pure ?_)
    show wpAny (model X.prog X.w) X.A (do rule "assign.swapped-stores"; let items ← unpackItems (.ref s1.heap.objs.size) xs.length none; assignInOrder (xs.reverse.map fun n => fun v => bindName X.env n v) items.reverse; pure Flow.next) _ _ _
    rw [show xs.length = us.toArray.size by rw [List.size_toArray, hul]]
    refine wpAny_bind (wpAny_rule (wpAny_bind (unpackItems_tuple (items := us.toArray) (I.ok.hd hc) (IsTup.new s1.heap _) fun h' hx' => ?_)))
    have I3 := I2.kept (h' := h') (t' := s1.toks) fun b o e => hx' b o (Nat.ne_of_lt (Heap.lt_size e)) e
    refine wpAny_bind ?_
    have key := bind_all (X := X) (pins := pins) (H := H1) (E := X.xe) hN is xs vs us σ { s1 with heap := h' } (fun _ s2 => wpAny (model X.prog X.w) X.A (pure Flow.next) (SP X pins D) X.xe s2) [] [] hl hx r1 hvl I3 fun s' I' => assignInOrder_nil (wpAny_pure ⟨_, H1, I', q1⟩)
    rw [List.append_nil, List.append_nil] at key
    rw [show us.toArray.toList.reverse = us.reverse by rfl, show (xs.reverse.map fun n => fun v => bindName X.env n v) = (xs.map fun x => fun v => bindName X.env x v).reverse by rw [List.map_reverse]]
    exact key
  · show us.toArray.size ≤ sizeLine
    rw [List.size_toArray, hul, ← hl, sizeLine_v]; omega
end
end DI
set_option Elab.async false
set_option linter.all false
set_option maxRecDepth 100000
/-! Su: statements have readings that are met. -/
namespace DI
open PySem PySem.Spec PyProof.Rows
open L2 hiding ixN
section
variable {W : Wd} {R : Addr} {Ex : XK} {b : Bool} {k : Nat} {c : SC} {q : Kd} {F H F' H' F1 H1 F0 H0 : Hp} {v : V} {d : D} {X : Cx} {e : E}
/-- what is wanted behind a statement -/
def PostFl (W : Wd) (R : Addr) (Ex : XK) (F0 H0 : Hp) (D : Ends) : Rs Fl → Prop
  | .stuck => False
  | .ok (.nx σ') r' => ∀ σV' F' H', Good W R F' H' r' → Grow R F0 H0 F' H' → StOk W R H0 F' H' σV' σ' → D.nx σV' H'
  | .ok (.brk σ') r' => ∀ σV' F' H', Good W R F' H' r' → Grow R F0 H0 F' H' → StOk W R H0 F' H' σV' σ' → D.bk σV' H'
  | .ok (.cnt σ') r' => ∀ σV' F' H', Good W R F' H' r' → Grow R F0 H0 F' H' → StOk W R H0 F' H' σV' σ' → D.ct σV' H'
  | .ok (.ret d) r' => ∀ v F' H', Good W R F' H' r' → Grow R F0 H0 F' H' → Rep W R F' v d → D.rt v H'
  | .exc x r' => ∀ cls dd F' H', Good W R F' H' r' → Grow R F0 H0 F' H' → RepX W R F' cls dd x → Ex cls dd H'
def SatS (W : Wd) (R : Addr) (Ex : XK) (t : TS) (f : St → Rho → Rs Fl) : Prop := ∀ (F0 H0 F H : Hp) (σV : L2.St) (σ : St) (r : Rho) (D : Ends),
  Good W R F H r → Grow R F0 H0 F H → StOk W R H0 F H σV σ → PostFl W R Ex F0 H0 D (f σ r) → t D σV H
/-- a frame that runs statements -/
structure XS (W : Wd) (c : SC) (k : Nat) (Ex : XK) (X : Cx) : Prop where
  ok : XOk W c k Ex X
  own : PassesOwn (model X.prog X.w) X.A X.env X.xe
structure RdS (W : Wd) (R : Addr) (Ex : XK) (k : Nat) (c : SC) (s : S) : Prop where
  blk : ∀ l, chkS s c (.b l) = true → ∃ t, (∀ X, XS W c k Ex X → PSs X l t) ∧ SatS W R Ex t (evS s)
  one : isGh s = false → ∀ st, chkS s c (.s st) = true → ∃ t, (∀ X, XS W c k Ex X → PS X st t) ∧ SatS W R Ex t (evS s)
theorem PostFl.s {D : Ends} : ¬ PostFl W R Ex F0 H0 D .stuck := fun h => h
theorem PostFl.x {D : Ends} (g : Grow R F0 H0 F H) : ∀ x r', PostFl W R Ex F0 H0 D (.exc x r') → ∀ cls dd F' H', Good W R F' H' r' → Grow R F H F' H' → RepX W R F' cls dd x → Ex cls dd H' :=
  fun x r' h cls dd F' H' a b c => h cls dd F' H' a (g.trans b) c
/-- an expression, then -/
theorem Sat.thenS {t : TE} {f : St → Rho → Rs D} {q : Kd} (h : Sat W R Ex q t f) {σV : L2.St} {σ : St} {r : Rho} (G : Good W R F H r) (g : Grow R F0 H0 F H) (S : StOk W R H0 F H σV σ) {K : D → Rho → Rs Fl} {D : Ends} {Q : VK}
    (p : PostFl W R Ex F0 H0 D ((f σ r).bind K)) (z : ∀ d r' v F' H', Good W R F' H' r' → Grow R F0 H0 F' H' → StOk W R H0 F' H' σV σ → PK W R q H F' H' v d → PostFl W R Ex F0 H0 D (K d r') → Q v H') : t σV H Q :=
  h.then_ G S (Post := PostFl W R Ex F0 H0 D) PostFl.s (PostFl.x g) p fun d r' v F' H' G' g' S' p' q' => z d r' v F' H' G' (g.trans g') S' p' q'
theorem SatT.thenS {t : TT} {f : St → Rho → Rs D} (h : SatT W R Ex t f) {σV : L2.St} {σ : St} {r : Rho} (G : Good W R F H r) (g : Grow R F0 H0 F H) (S : StOk W R H0 F H σV σ) {K : D → Rho → Rs Fl} {D : Ends} {Q : Bool → Hp → Prop}
    (p : PostFl W R Ex F0 H0 D ((f σ r).bind K)) (hb : ∀ d r', ¬ (∃ b, d = .bl b) → ¬ PostFl W R Ex F0 H0 D (K d r')) (z : ∀ b r' F' H', Good W R F' H' r' → Grow R F0 H0 F' H' → StOk W R H0 F' H' σV σ → PostFl W R Ex F0 H0 D (K (.bl b) r') → Q b H') : t σV H Q :=
  h.then_ G S (Post := PostFl W R Ex F0 H0 D) PostFl.s (PostFl.x g) p hb fun b r' F' H' G' g' S' q' => z b r' F' H' G' (g.trans g') S' q'
theorem OkE.comp_inv {own : List (Str × Nat)} {tg : Tg} {it elt : E} {ifs : Option E} (h : OkE W k (.comp own tg it ifs elt)) : (OkE W k it ∧ 0 < k) ∧ (∀ e, ifs = some e → OkE W k e) ∧ noB elt ∧ OkE W k elt := by
  cases ifs with
  | none => exact ⟨h.1, (fun e q => by cases q), h.2.2⟩
  | some e => exact ⟨h.1, (fun e' q => by cases q; exact h.2.1), h.2.2⟩
/-! ### name = value, a comprehension or not -/
theorem asg_name (wok : WOk W) {i : Nat} {y : Str} {py : Pos} {x : Expr} {spos : Pos} (hl : locB c y i = true) (ok : OkE W k e) (hc : chk e c (.e x) = true) (nt : noTells e = true) :
    ∃ t, (∀ X, XOk W c k Ex X → PS X (.Assign [.Name y py] x spos) (tAsg t (gName i))) ∧ Sat W R Ex (kd e) t (ev e) := by
  have plain : (∀ X, XOk W c k Ex X → swapsWith x (some (.Name y py)) spos.line X.env = pure false) → ∃ t, (∀ X, XOk W c k Ex X → PS X (.Assign [.Name y py] x spos) (tAsg t (gName i))) ∧ Sat W R Ex (kd e) t (ev e) := fun hs => by
    obtain ⟨t, pt, st⟩ := (rd (R := R) wok e Ex c ok).val x hc
    refine ⟨t, fun X hX => ?_, st⟩
    obtain ⟨h1, h2, h3⟩ := locB_of hl hX
    exact ps_set (by rw [hX.N]; exact hX.nd) h1 h2 (pt X hX) (hs X hX) h3
  by_cases hn : notComp x = true
  · exact plain fun X hX => swaps_of hn
  · have fin : ∀ x1 gs sc' pos, x = .ListComp x1 gs sc' pos → ∃ own tg it ifs elt, e = .comp own tg it ifs elt := fun x1 gs sc' pos hx => by
      subst hx
      cases e with
      | comp own tg it ifs elt => exact ⟨_, _, _, _, _, rfl⟩
      | bi b _ => cases b <;> exact (Bool.false_ne_true hc).elim
      | tells _ _ _ _ _ => exact (Bool.false_ne_true nt).elim
      | _ => exact (Bool.false_ne_true hc).elim
    cases x <;> try (exact absurd rfl hn)
    · rename_i x1 gs sc' pos
      obtain ⟨own, tg, it, ifs, elt, rfl⟩ := fin _ _ _ _ rfl
      obtain ⟨_, t, h1, h2, h3⟩ := comp_val (W := W) (R := R) (Ex := Ex) (k := k) ok.comp_inv.1.2 ok.comp_inv.2.2.1 (rd wok it Ex c ok.comp_inv.1.1) (fun sc' e' q => rd wok e' NoX (blkSC c sc') (ok.comp_inv.2.1 e' q)) (fun sc' => rd wok elt NoX (blkSC c sc') ok.comp_inv.2.2.2) _ hc
      refine ⟨t, fun X hX => ?_, h3⟩
      obtain ⟨n1, n2, n3⟩ := locB_of hl hX
      have e0 : swapsWith (.ListComp x1 gs sc' pos) (some (.Name y py)) spos.line X.env = pure (X.env.blockKind == .function && X.env.kindOf y == some .local && py.line == pos.line && !(sc'.names.any fun (n, k) => n == y && (k == .local || k == .cell))) := rfl
      cases hb : (X.env.blockKind == .function && X.env.kindOf y == some .local && py.line == pos.line && !(sc'.names.any fun (n, k) => n == y && (k == .local || k == .cell))) with
      | false =>
        rw [hb] at e0
        exact ps_set (by rw [hX.N]; exact hX.nd) n1 n2 (h1 X hX) e0 n3
      | true =>
        rw [hb] at e0
        have hy : X.env.scope.names.lookup y = some .local := by
          have := (ba (ba (ba hb).1).1).2
          have : X.env.kindOf y = some .local := by simpa using this
          exact this
        exact h2 X hX i y py spos n1 hy e0
    · cases e with
      | bi b _ => cases b <;> exact (Bool.false_ne_true hc).elim
      | _ => exact (Bool.false_ne_true hc).elim
    · cases e with
      | bi b _ => cases b <;> exact (Bool.false_ne_true hc).elim
      | _ => exact (Bool.false_ne_true hc).elim
/-! ### blocks -/
theorem gh_sat {a : S} (hg : isGh a = true) {σV : L2.St} {σ : St} {r : Rho} (G : Good W R F H r) (g : Grow R F0 H0 F H) (S : StOk W R H0 F H σV σ) {K : Fl → Rho → Rs Fl} {D : Ends} (p : PostFl W R Ex F0 H0 D ((evS a σ r).bind K)) :
    ∃ F' σ', Good W R F' H r ∧ Grow R F0 H0 F' H ∧ StOk W R H0 F' H σV σ' ∧ evS a σ r = .ok (.nx σ') r ∧ PostFl W R Ex F0 H0 D (K (.nx σ') r) := by
  cases a with
  | kill is =>
    refine ⟨F, killS σ is, G, g, ⟨by rw [killS_len, S.len], fun i s e => ?_, fun i j s u a hi hj hs hu ha hb => ?_⟩, rfl, p⟩
    · rw [killS_get] at e
      by_cases m : i ∈ is ∧ i < σ.length
      · rw [if_pos m] at e; cases e; trivial
      · rw [if_neg m] at e; exact S.at_ i s e
    · have gg : ∀ i s, (killS σ is)[i]? = some s → isOwn s = true → σ[i]? = some s := fun i s e o => by
        rw [killS_get] at e
        by_cases m : i ∈ is ∧ i < σ.length
        · rw [if_pos m] at e; cases e; cases o
        · rw [if_neg m] at e; exact e
      exact S.apart i j s u a (gg i s hi hs) (gg j u hj hu) hs hu ha hb
  | frz i =>
    have p : PostFl W R Ex F0 H0 D ((match σ[i]? with
      | some (.own ds) => Rs.ok (Fl.nx (σ.set i (.val (.lst ds)))) r
      | some (.ownd kvs) => .ok (.nx (σ.set i (.val (.dic kvs)))) r
      | _ => .stuck).bind K) := p
    have e1 : evS (.frz i) σ r = (match σ[i]? with
      | some (.own ds) => Rs.ok (Fl.nx (σ.set i (.val (.lst ds)))) r
      | some (.ownd kvs) => .ok (.nx (σ.set i (.val (.dic kvs)))) r
      | _ => .stuck) := rfl
    rw [e1]
    -- the object at a goes into the frozen part
    have put : ∀ (a : Addr) (o : HO), ¬ IsTbl o → H a = some o → F a = none → a ≠ R → H0 a = none → (∀ j u, j ≠ i → σ[j]? = some u → isOwn u = true → σV[j]? ≠ some (some (.ref a))) →
        Good W R (upd F a o) H r ∧ Grow R F0 H0 (upd F a o) H ∧ Le F (upd F a o) ∧ ∀ j s, j ≠ i → σ[j]? = some s → SlotOk W R H0 (upd F a o) H ((σV[j]?).join) s := by
      intro a o nt h1 h2 h3 h4 h5
      have le : Le F (upd F a o) := fun b u q => by rw [upd_ne (ne_of_none q h2)]; exact q
      refine ⟨⟨fun b u q => ?_, by rw [upd_ne h3.symm]; exact G.fR, fun b u q => ?_, G.row.mono le, G.tabs, fun c q hc => upd_some (G.cod c q hc)⟩, ⟨g.le.trans le, g.kept, fun b q1 q2 => ?_⟩, le, fun j s hj e => ?_⟩
      · by_cases hb : b = a
        · rw [hb, upd_same] at q; rw [hb, h1]; exact q
        · rw [upd_ne hb] at q; exact G.le _ _ q
      · by_cases hb : b = a
        · rw [hb, upd_same] at q; cases q; exact nt
        · rw [upd_ne hb] at q; exact G.ft _ _ q
      · by_cases hb : b = a
        · rw [hb]; exact h4
        · rw [upd_ne hb] at q2; exact g.new b q1 q2
      · have so := S.at_ j s e
        cases s with
        | un => trivial
        | val d => obtain ⟨v, e1, rv⟩ := so; exact ⟨v, e1, rv.mono le⟩
        | exc x => exact ⟨so.1, so.2.mono le⟩
        | own ds => obtain ⟨b, xs, e1, a1, a2, a3, a4, a5, a6⟩ := so; exact ⟨b, xs, e1, a1, a2, a3.mono le, by rw [upd_ne (fun z => h5 j _ hj e rfl (by rw [← z]; exact join_some e1))]; exact a4, a5, a6⟩
        | ownd ds => obtain ⟨b, xs, e1, a1, a2, a3, a4, a5, a6⟩ := so; exact ⟨b, xs, e1, a1, a2, a3.mono le, by rw [upd_ne (fun z => h5 j _ hj e rfl (by rw [← z]; exact join_some e1))]; exact a4, a5, a6⟩
        | me cn ds => obtain ⟨b, dx, xs, e1, a1, a2, a3, a4, a5, a6⟩ := so; exact ⟨b, dx, xs, e1, a1, a2, a3.mono le, by rw [upd_ne (fun z => h5 j _ hj e rfl (by rw [← z]; exact join_some e1))]; exact a4, a5, a6⟩
    have fin : ∀ (F' : Hp) (d : DI.D) (v : V), Good W R F' H r → Grow R F0 H0 F' H → (∀ j s, j ≠ i → σ[j]? = some s → SlotOk W R H0 F' H ((σV[j]?).join) s) → σV[i]? = some (some v) → Rep W R F' v d → StOk W R H0 F' H σV (σ.set i (.val d)) := by
      intro F' d v G' g' so hv rv
      refine ⟨by rw [List.length_set, S.len], fun j s hj => ?_, fun j l s u a hj hl hs hu ha hb => ?_⟩
      · by_cases e : i = j
        · subst e
          rw [List.getElem?_set, if_pos rfl] at hj
          split at hj
          · cases hj; exact ⟨v, by rw [hv]; rfl, rv⟩
          · cases hj
        · rw [List.getElem?_set_ne e] at hj
          exact so j s (fun z => e z.symm) hj
      · have gg : ∀ j s, (σ.set i (.val d))[j]? = some s → isOwn s = true → σ[j]? = some s := fun j s e o => by
          by_cases z : i = j
          · subst z
            rw [List.getElem?_set, if_pos rfl] at e
            split at e
            · cases e; cases o
            · cases e
          · rw [List.getElem?_set_ne z] at e; exact e
        exact S.apart j l s u a (gg j s hj hs) (gg l u hl hu) hs hu ha hb
    cases e : σ[i]? with
    | none => rw [e] at p; exact p.elim
    | some s =>
      rw [e] at p
      cases s with
      | own ds =>
        obtain ⟨a, xs, e1, h1, h2, h3, h4, h5, h6⟩ := S.at_ i _ e
        obtain ⟨G', g', le, so⟩ := put a _ nt_lst h1 h4 h5 h6 fun j u hj eu ou z => hj (S.apart i j _ u a e eu rfl ou (join_some e1) z).symm
        exact ⟨_, _, G', g', fin _ _ _ G' g' so (join_some e1) (.lst upd_same h2 (h3.mono le)), rfl, p⟩
      | ownd ds =>
        obtain ⟨a, xs, e1, h1, h2, h3, h4, h5, h6⟩ := S.at_ i _ e
        obtain ⟨G', g', le, so⟩ := put a _ nt_dK h1 h4 h5 h6 fun j u hj eu ou z => hj (S.apart i j _ u a e eu rfl ou (join_some e1) z).symm
        exact ⟨_, _, G', g', fin _ _ _ G' g' so (join_some e1) (.dic upd_same h2 (h3.mono le)), rfl, p⟩
      | _ => exact p.elim
  | _ => exact (Bool.false_ne_true hg).elim
/-- ends for the first of two -/
theorem PostFl.seq {D : Ends} {res : Rs Fl} {K : St → Rho → Rs Fl} {nx : L2.St → Hp → Prop} (p : PostFl W R Ex F0 H0 D (res.bind fun fl r => match fl with
      | .nx σ' => K σ' r
      | fl => .ok fl r)) (q : ∀ σ' r' σV' F' H', Good W R F' H' r' → Grow R F0 H0 F' H' → StOk W R H0 F' H' σV' σ' → PostFl W R Ex F0 H0 D (K σ' r') → nx σV' H') : PostFl W R Ex F0 H0 { D with nx := nx } res := by
  cases res with
  | stuck => exact p
  | exc x r => exact p
  | ok fl r =>
    cases fl with
    | nx σ' => exact fun σV' F' H' G g S => q σ' r σV' F' H' G g S p
    | ret d => exact p
    | brk σ => exact p
    | cnt σ => exact p
theorem rds_cons {a r : S} (ha : RdS W R Ex k c a) (hr : RdS W R Ex k c r) : RdS W R Ex k c (.cons a r) where
  one := fun _ st h => (Bool.false_ne_true h).elim
  blk := fun l h => by
    by_cases hg : isGh a = true
    · have h : chkS r c (.b l) = true := by
        cases l with
        | nil => have h : (if isGh a = true then chkS r c (.b []) else false) = true := h; rw [if_pos hg] at h; exact h
        | cons x l => have h : (if isGh a = true then chkS r c (.b (x :: l)) else (chkS a c (.s x) && chkS r c (.b l))) = true := h; rw [if_pos hg] at h; exact h
      obtain ⟨t, pt, st⟩ := hr.blk l h
      refine ⟨t, pt, fun F0 H0 F H σV σ ρ D G g S p => ?_⟩
      obtain ⟨F', σ', G', g', S', e, p'⟩ := gh_sat hg G g S (K := fun fl r' => match fl with
        | .nx σ' => evS r σ' r'
        | fl => .ok fl r') p
      exact st F0 H0 F' H σV σ' ρ D G' g' S' p'
    · cases l with
      | nil => have h : (if isGh a = true then chkS r c (.b []) else false) = true := h; rw [if_neg hg] at h; cases h
      | cons x l =>
        have h : (if isGh a = true then chkS r c (.b (x :: l)) else (chkS a c (.s x) && chkS r c (.b l))) = true := h
        rw [if_neg hg] at h
        obtain ⟨h1, h2⟩ := ba h
        obtain ⟨t, pt, st⟩ := ha.one (by simpa using hg) x h1
        obtain ⟨u, pu, su⟩ := hr.blk l h2
        refine ⟨tSeq t u, fun X hX => pss_cons (pt X hX) (pu X hX), fun F0 H0 F H σV σ ρ D G g S p => ?_⟩
        exact st F0 H0 F H σV σ ρ _ G g S (PostFl.seq p fun σ' r' σV' F' H' G' g' S' p' => su F0 H0 F' H' σV' σ' r' D G' g' S' p')
theorem rds_nil : RdS W R Ex k c .nil where
  one := fun _ st h => (Bool.false_ne_true h).elim
  blk := fun l h => by
    cases l with
    | cons _ _ => exact (Bool.false_ne_true h).elim
    | nil => exact ⟨tNext, fun X hX => pss_nil, fun F0 H0 F H σV σ ρ D G g S p => p σV F H G g S⟩
/-- a single statement -/
theorem RdS.of {s : S} (hb : ∀ l, chkS s c (.b l) = false) (h : ∀ st, chkS s c (.s st) = true → ∃ t, (∀ X, XS W c k Ex X → PS X st t) ∧ SatS W R Ex t (evS s)) : RdS W R Ex k c s where
  one := fun _ => h
  blk := fun l h => by rw [hb l] at h; cases h
theorem rds_gh {s : S} (hb : ∀ l, chkS s c (.b l) = false) (hs : ∀ st, chkS s c (.s st) = false) : RdS W R Ex k c s where
  one := fun _ st h => by rw [hs st] at h; cases h
  blk := fun l h => by rw [hb l] at h; cases h
end
end DI
set_option Elab.async false
set_option linter.all false
set_option maxRecDepth 100000
/-! Sv: each statement has a reading that is met. -/
namespace DI
open PySem PySem.Spec PyProof.Rows
open L2 hiding ixN
section
variable {W : Wd} {R : Addr} {Ex : XK} {b : Bool} {k : Nat} {c : SC} {q : Kd} {F H F' H' F1 H1 F0 H0 : Hp} {v : V} {d : D} {X : Cx} {e : E}
theorem rds_skip : RdS W R Ex k c .skip := .of (fun _ => rfl) fun st h => by
  cases st <;> try (exact (Bool.false_ne_true h).elim)
  · rename_i x pos
    cases x <;> try (exact (Bool.false_ne_true h).elim)
    rename_i y j p2
    cases y <;> try (exact (Bool.false_ne_true h).elim)
    exact ⟨tNext, fun X hX => ps_doc, fun F0 H0 F H σV σ ρ D G g S p => p σV F H G g S⟩
  · exact ⟨tNext, fun X hX => ps_pass, fun F0 H0 F H σV σ ρ D G g S p => p σV F H G g S⟩
theorem rds_nev : RdS W R Ex k c .nev := .of (fun _ => rfl) fun st h => ⟨tNever, fun X hX => ps_never, fun F0 H0 F H σV σ ρ D G g S p => p⟩
theorem rds_brk : RdS W R Ex k c .brk := .of (fun _ => rfl) fun st h => by
  cases st <;> try (exact (Bool.false_ne_true h).elim)
  exact ⟨tBreak, fun X hX => ps_break, fun F0 H0 F H σV σ ρ D G g S p => p σV F H G g S⟩
theorem rds_cnt : RdS W R Ex k c .cnt := .of (fun _ => rfl) fun st h => by
  cases st <;> try (exact (Bool.false_ne_true h).elim)
  exact ⟨tCont, fun X hX => ps_continue, fun F0 H0 F H σV σ ρ D G g S p => p σV F H G g S⟩
theorem rds_retN : RdS W R Ex k c .retN := .of (fun _ => rfl) fun st h => by
  cases st <;> try (exact (Bool.false_ne_true h).elim)
  rename_i x pos
  cases x <;> try (exact (Bool.false_ne_true h).elim)
  exact ⟨tRetN, fun X hX => ps_retN, fun F0 H0 F H σV σ ρ D G g S p => p .non F H G g .non⟩
theorem rds_ret (wok : WOk W) {e : E} (ok : OkS W k (.ret e)) : RdS W R Ex k c (.ret e) := .of (fun _ => rfl) fun st h => by
  cases st <;> try (exact (Bool.false_ne_true h).elim)
  rename_i x pos
  cases x <;> try (exact (Bool.false_ne_true h).elim)
  rename_i x
  obtain ⟨t, pt, st⟩ := (rd (R := R) wok e Ex c ok.2).val x h
  refine ⟨tRet t, fun X hX => ps_ret (pt X hX.ok), fun F0 H0 F H σV σ ρ D G g S p => ?_⟩
  exact (st.toC (noB_ne ok.1)).thenS G g S p fun d r' v F' H' G' g' S' p' q' => q' v F' H' G' g' p'
theorem rds_expr (wok : WOk W) {e : E} (ok : OkS W k (.expr e)) : RdS W R Ex k c (.expr e) := .of (fun _ => rfl) fun st h => by
  cases st <;> try (exact (Bool.false_ne_true h).elim)
  rename_i x pos
  obtain ⟨h1, h2⟩ := ba (show (notComp x && chk e c (.e x)) = true from h)
  obtain ⟨t, pt, st⟩ := (rd (R := R) wok e Ex c ok).val x h2
  refine ⟨tDrop t, fun X hX => ps_expr (pt X hX.ok) (swaps_of h1), fun F0 H0 F H σV σ ρ D G g S p => ?_⟩
  exact st.thenS G g S p fun d r' v F' H' G' g' S' p' q' => q' σV F' H' G' g' S'
theorem filterMap_lt {α β : Type} (f : α → Option β) : ∀ {l : List α} {x : α}, x ∈ l → f x = none → (l.filterMap f).length < l.length
  | y :: l, x, h, e => by
    rw [List.filterMap_cons]
    have hle := List.length_filterMap_le f l
    rcases List.mem_cons.mp h with rfl | h
    · simp only [e, List.length_cons]; omega
    · have := filterMap_lt f h e
      cases f y with
      | none => simp only [List.length_cons]; omega
      | some z => simp only [List.length_cons]; omega
theorem asg_sole {tg : Tg} {t x : Expr} (h : chkT c tg t = true) (h1 : tg1 c t x = true) : (∀ l env, (∀ y p, t ≠ .Name y p) → swapsWithSole [t] x l env = pure false) ∧ (∀ env, env.scope = c.sc → swappedStores [t] x env = pure none) ∧ ∀ env, (assignEach [t] env).map (·.2) = [assign t env] := by
  cases t with
  | Name y p => exact ⟨fun l env z => absurd rfl (z y p), fun env _ => by cases x <;> rfl, fun env => rfl⟩
  | Tuple ts n p =>
    refine ⟨fun l env _ => by cases x <;> rfl, fun env hsc => ?_, fun env => rfl⟩
    by_cases hx : noTupV x = true
    · cases x <;> first | rfl | exact (Bool.false_ne_true hx).elim
    · cases x <;> try rfl
      rename_i xs m p2
      have h1 : ((!(ts.length == 2 || ts.length == 3) || xs.all (foldedForSure 8)) || cellT c ts) = true := h1
      unfold swappedStores
      rcases Bool.or_eq_true_iff.mp h1 with h1 | hcell
      rotate_left
      · have hlt : ∀ l : Nat, ((ts.filterMap fun | .Name id pos => if env.kindOf id == some .local && pos.line == l then some id else none | _ => none).length != ts.length) = true := fun l => by
          have : (ts.filterMap fun | .Name id pos => if env.kindOf id == some .local && pos.line == l then some id else none | _ => none).length < ts.length := by
            obtain ⟨t, ht, hn⟩ := List.any_eq_true.mp hcell
            refine filterMap_lt _ ht ?_
            cases t <;> first | rfl | skip
            rename_i y p
            have hy : ¬ c.sc.names.lookup y = some .local := by simpa using hn
            have : (env.kindOf y == some .local) = false := by
              have e0 : env.kindOf y = c.sc.names.lookup y := by rw [← hsc]; rfl
              rw [e0]
              simpa using hy
            simp only [this, Bool.false_and]
            rfl
          simp only [bne_iff_ne, ne_eq]
          omega
        simp only
        split
        · rfl
        · split
          · rfl
          · generalize hN : List.filterMap _ ts = nm
            have e1 : (nm.length != ts.length) = true := by rw [← hN]; exact hlt _
            simp only [e1, Bool.true_or, if_true]
      rcases Bool.or_eq_true_iff.mp h1 with z | z
      · have h2 : (ts.length == 2 || ts.length == 3) = false := by simpa using z
        simp only [h2]
        rfl
      · simp only [z, if_true]
        split
        · rfl
        · split
          · rfl
          · split <;> rfl
  | _ => exact (Bool.false_ne_true h1).elim
theorem tgK_pos {tg : Tg} (h : tgK k tg) (n : ∀ i, tg ≠ .nm i) : 0 < k := by
  cases tg with
  | nm i => exact absurd rfl (n i)
  | _ => exact h
theorem rds_set (wok : WOk W) {tg : Tg} {e : E} (ok : OkS W k (.set tg e)) : RdS W R Ex k c (.set tg e) := .of (fun _ => rfl) fun st h => by
  cases st <;> try (exact (Bool.false_ne_true h).elim)
  rename_i ts x pos
  match ts, h with
  | [t], h =>
    obtain ⟨h1, h2⟩ := ba (show (tg1 c t x && (chkT c tg t && (noTells e && chk e c (.e x)))) = true from h)
    obtain ⟨h2, h3⟩ := ba h2
    obtain ⟨hnt, h3⟩ := ba h3
    by_cases hn : ∃ y p, t = .Name y p
    · obtain ⟨y, p, rfl⟩ := hn
      obtain ⟨i, rfl⟩ : ∃ i, tg = .nm i := by cases tg <;> first | exact ⟨_, rfl⟩ | exact (Bool.false_ne_true h2).elim
      have h2 : locB c y i = true := h2
      obtain ⟨te, pt, st⟩ := asg_name (W := W) (R := R) (Ex := Ex) (py := p) (spos := pos) wok h2 ok.2 h3 hnt
      refine ⟨tAsg te (gName i), fun X hX => pt X hX.ok, fun F0 H0 F H σV σ ρ D G g S p => ?_⟩
      exact (st.toC (noB_ne ok.1.1)).thenS G g S p fun d r' v F' H' G' g' S' p' q' => q' _ F' H' G' g' (S'.set ⟨v, rfl, p'⟩ fun j u a _ _ hw => by cases hw)
    · obtain ⟨te, pt, st⟩ := (rd (R := R) wok e Ex c ok.2).val x h3
      obtain ⟨g, pg, sg⟩ := tg_ok (W := W) (R := R) (Ex := Ex) (k := k) (tgK_pos ok.1.2 fun i z => hn (by subst z; cases t <;> first | exact ⟨_, _, rfl⟩ | exact (Bool.false_ne_true h2).elim)) tg t h2
      obtain ⟨a1, a2, a3⟩ := asg_sole h2 h1
      refine ⟨tAsg te g, fun X hX => ps_asg (pt X hX.ok) (pg X hX.ok) (a1 _ _ fun y p z => hn ⟨y, p, z⟩) (a2 _ hX.ok.sc) (a3 _), fun F0 H0 F H σV σ ρ D G gr S p => ?_⟩
      refine (st.toC (noB_ne ok.1.1)).thenS G gr S p fun d r' v F' H' G' g' S' p' q' => ?_
      have q' : PostFl W R Ex F0 H0 D (.lift ((asg tg d σ).map .nx) r') := q'
      cases ea : asg tg d σ with
      | none => rw [ea] at q'; exact q'.elim
      | some σ' => rw [ea] at q'; exact sg H0 F' H' σV σ σ' r' v d D.nx G' S' p' ea fun σV' S2 _ _ => q' σV' F' H' G' g' S2
theorem own_of {v : V} {ds : List DI.D} (p : PK W R .n H F' H' v (.lst ds)) : ∃ a xs, v = .ref a ∧ H' a = some (.lst xs) ∧ xs.length ≤ sizeLine ∧ Reps W R F' xs ds ∧ F' a = none ∧ a ≠ R ∧ H a = none := by
  rcases p with ⟨_, z⟩ | ⟨a, xs, es, rfl, e, h1, h2, h3, h4, h5, h6⟩ | ⟨_, _, _, _, e, _⟩
  · cases z
  · cases e; exact ⟨a, xs, rfl, h1, h2, h4, h5, h3, h6 rfl⟩
  · cases e
theorem ownd_of {v : V} {ds : List (DI.D × DI.D)} (p : PK W R .n H F' H' v (.dic ds)) : ∃ a xs, v = .ref a ∧ H' a = some (.dK xs) ∧ xs.length ≤ sizeLine ∧ RepKV W R F' xs ds ∧ F' a = none ∧ a ≠ R ∧ H a = none := by
  rcases p with ⟨_, z⟩ | ⟨_, _, _, _, e, _⟩ | ⟨a, xs, es, rfl, e, h1, h2, h3, h4, h5, h6⟩
  · cases z
  · cases e
  · cases e; exact ⟨a, xs, rfl, h1, h2, h4, h5, h3, h6 rfl⟩
/-- a new object's address is no own one's -/
theorem apart_new {σV : L2.St} {σ : St} {a : Addr} (S : StOk W R H0 F H σV σ) (hn : H a = none) {j : Nat} {u : Slot} (hj : σ[j]? = some u) (hu : isOwn u = true) : σV[j]? ≠ some (some (.ref a)) := by
  intro z
  have so := S.at_ j u hj
  rw [z] at so
  cases u with
  | own ds => obtain ⟨b, xs, e, h1, _⟩ := so; cases e; rw [hn] at h1; cases h1
  | ownd ds => obtain ⟨b, xs, e, h1, _⟩ := so; cases e; rw [hn] at h1; cases h1
  | me cn ds => obtain ⟨b, dx, xs, e, h1, _⟩ := so; cases e; rw [hn] at h1; cases h1
  | _ => cases hu
theorem rds_setO (wok : WOk W) {i : Nat} {e : E} (ok : OkS W k (.setO i e)) : RdS W R Ex k c (.setO i e) := .of (fun _ => rfl) fun st h => by
  cases st <;> try (exact (Bool.false_ne_true h).elim)
  rename_i ts x pos
  cases ts with
  | nil => exact (Bool.false_ne_true h).elim
  | cons t ts =>
  cases ts with
  | cons _ _ => cases t <;> exact (Bool.false_ne_true h).elim
  | nil =>
    cases t <;> try (exact (Bool.false_ne_true h).elim)
    rename_i y py
    obtain ⟨h1, h2⟩ := ba (show (locB c y i && (noTells e && chk e c (.e x))) = true from h)
    obtain ⟨hnt, h2⟩ := ba h2
    obtain ⟨te, pt, st⟩ := asg_name (W := W) (R := R) (Ex := Ex) (py := py) (spos := pos) wok h1 ok.2 h2 hnt
    rw [ok.1] at st
    refine ⟨tAsg te (gName i), fun X hX => pt X hX.ok, fun F0 H0 F H σV σ ρ D G g S p => ?_⟩
    refine st.thenS G g S p fun d r' v F' H' G' g' S' p' q' => ?_
    cases d <;> try (exact q'.elim)
    · obtain ⟨a, xs, rfl, h1, h2, h3, h4, h5, h6⟩ := own_of p'
      exact q' _ F' H' G' g' (S'.set ⟨a, xs, rfl, h1, h2, h3, h4, h5, g.kept.gone h6⟩ fun j u b hj hu _ ho hb => by cases hb; exact apart_new S h6 hu ho)
    · obtain ⟨a, xs, rfl, h1, h2, h3, h4, h5, h6⟩ := ownd_of p'
      exact q' _ F' H' G' g' (S'.set ⟨a, xs, rfl, h1, h2, h3, h4, h5, g.kept.gone h6⟩ fun j u b hj hu _ ho hb => by cases hb; exact apart_new S h6 hu ho)
theorem rds_ifs {x : E} {a b : S} (wok : WOk W) (okc : OkE W k x) (ha : RdS W R Ex k c a) (hb : RdS W R Ex k c b) : RdS W R Ex k c (.ifs x a b) := .of (fun _ => rfl) fun st h => by
  cases st <;> try (exact (Bool.false_ne_true h).elim)
  rename_i t l1 l2 pos
  obtain ⟨h1, h2⟩ := ba (show (chk x c (.e t) && (chkS a c (.b l1) && chkS b c (.b l2))) = true from h)
  obtain ⟨h2, h3⟩ := ba h2
  obtain ⟨tc, pc, sc⟩ := (rd (R := R) wok x Ex c okc).tst t h1
  obtain ⟨ta, pa, sa⟩ := ha.blk l1 h2
  obtain ⟨tb, pb, sb⟩ := hb.blk l2 h3
  refine ⟨tIfS tc ta tb, fun X hX => ps_if (pc X hX.ok).1 (pa X hX) (pb X hX), fun F0 H0 F H σV σ ρ D G g S p => ?_⟩
  refine sc.thenS G g S p (fun d r' hd => ?_) fun b' r' F' H' G' g' S' q' => ?_
  · cases d <;> first | exact fun z => z | exact absurd ⟨_, rfl⟩ hd
  · cases b' with
    | true => rw [if_pos rfl]; exact sa F0 H0 F' H' σV σ r' D G' g' S' q'
    | false => rw [if_neg (by decide)]; exact sb F0 H0 F' H' σV σ r' D G' g' S' q'
/-! ### loops -/
theorem killS_ok {σV : L2.St} {σ : St} (S : StOk W R H0 F H σV σ) (is : List Nat) : StOk W R H0 F H σV (killS σ is) := by
  refine ⟨by rw [killS_len, S.len], fun i s e => ?_, fun i j s u a hi hj hs hu ha hb => ?_⟩
  · rw [killS_get] at e
    by_cases m : i ∈ is ∧ i < σ.length
    · rw [if_pos m] at e; cases e; trivial
    · rw [if_neg m] at e; exact S.at_ i s e
  · have gg : ∀ i s, (killS σ is)[i]? = some s → isOwn s = true → σ[i]? = some s := fun i s e o => by
      rw [killS_get] at e
      by_cases m : i ∈ is ∧ i < σ.length
      · rw [if_pos m] at e; cases e; cases o
      · rw [if_neg m] at e; exact e
    exact S.apart i j s u a (gg i s hi hs) (gg j u hj hu) hs hu ha hb
theorem rds_fors (wok : WOk W) (hk : 0 < k) {tg : Tg} {it : E} {body : S} {kills : List Nat} (nb : noB it) (oki : OkE W k it) (hb : RdS W R Ex k c body) : RdS W R Ex k c (.fors tg it body kills) := .of (fun _ => rfl) fun st h => by
  cases st <;> try (exact (Bool.false_ne_true h).elim)
  rename_i t i l orelse pos
  match orelse, h with
  | [], h =>
  obtain ⟨h1, h2⟩ := ba (show ((!needT it || isTup t) && (notSet i && (chk it c (axI it i) && (chkT c tg t && chkS body c (.b l))))) = true from h)
  obtain ⟨h2, h3⟩ := ba h2
  obtain ⟨h3, h4⟩ := ba h3
  obtain ⟨h4, h5⟩ := ba h4
  obtain ⟨wi, pi, _, si⟩ := (rd (R := R) wok it Ex c oki).itr i t h3 (fun z => by rw [z] at h1; exact h1)
  obtain ⟨g, pg, sg⟩ := tg_ok (W := W) (R := R) (Ex := Ex) (k := k) hk tg t h4
  obtain ⟨tb, pb, sb⟩ := hb.blk l h5
  refine ⟨tFor wi g tb, fun X hX => ps_for hX.own (hX.ok.calm hk) (pi X hX.ok) (pg X hX.ok) (pb X hX) (set_of h2), fun F0 H0 F H σV σ ρ D G gr S p => ?_⟩
  have p : PostFl W R Ex F0 H0 D ((ev it σ ρ).bind fun x r => match iterD x with
    | some ds => forR (fun d σ r => match asg tg d σ with
      | some σ' => evS body σ' r
      | none => .stuck) kills ds σ r
    | none => .stuck) := p
  refine si nb H0 F H σV σ ρ _ G S ?_
  cases e : ev it σ ρ with
  | stuck => rw [e] at p; exact p
  | exc x r' => rw [e] at p; exact fun cls dd F' H' a b c => p cls dd F' H' a (gr.trans b) c
  | ok d r1 =>
    rw [e] at p
    have p : PostFl W R Ex F0 H0 D (match iterD d with
      | some ds => forR (fun d σ r => match asg tg d σ with
        | some σ' => evS body σ' r
        | none => .stuck) kills ds σ r1
      | none => .stuck) := p
    cases ei : iterD d with
    | none => rw [ei] at p; exact p.elim
    | some ds =>
      rw [ei] at p
      refine ⟨ds, ei, fun J F1 H1 G1 g1 wk hlen => ?_⟩
      refine ⟨fun i m σV2 H2 => ∃ F2 r2 σ2, i ≤ ds.length ∧ m = ds.length - i ∧ Good W R F2 H2 r2 ∧ Grow R F0 H0 F2 H2 ∧ Le F1 F2 ∧ StOk W R H0 F2 H2 σV2 σ2 ∧
        PostFl W R Ex F0 H0 D (forR (fun d σ r => match asg tg d σ with
        | some σ' => evS body σ' r
        | none => .stuck) kills (ds.drop i) σ2 r2), ⟨ds.length, F1, r1, σ, Nat.zero_le _, rfl, G1, gr.trans g1, Le.refl _, S.grow g1, p⟩, ?_⟩
      rintro i m σV2 H2 ⟨F2, r2, σ2, hi, rfl, G2, gr2, le2, S2, p2⟩
      obtain ⟨w1, w2⟩ := wk i F2 H2 r2 G2 le2
      by_cases hlt : i < ds.length
      · right
        obtain ⟨d', hd'⟩ : ∃ d', ds[i]? = some d' := ⟨ds[i], by simp [hlt]⟩
        obtain ⟨go, yl⟩ := w1 d' hd'
        have hdrop : ds.drop i = d' :: ds.drop (i + 1) := by
          rw [List.drop_eq_getElem_cons hlt]
          congr 1
          exact (List.getElem?_eq_some_iff.mp hd').2
        rw [hdrop] at p2
        refine ⟨go, fun σV3 H3 => ∃ F3 r3 σ3, Good W R F3 H3 r3 ∧ Grow R F0 H0 F3 H3 ∧ Le F1 F3 ∧ StOk W R H0 F3 H3 σV3 σ3 ∧ PostFl W R Ex F0 H0 D (forR (fun d σ r => match asg tg d σ with
          | some σ' => evS body σ' r
          | none => .stuck) kills (ds.drop (i + 1)) (killS σ3 kills) r3), fun σV3 H3 ⟨F3, r3, σ3, a1, a2, a3, a4, a5⟩ => ⟨ds.length - (i + 1), by omega, F3, r3, killS σ3 kills, hlt, rfl, a1, a2, a3, killS_ok a4 kills, a5⟩, fun x H3 hy => ?_⟩
        obtain ⟨F3, G3, g3, rx⟩ := yl x H3 hy
        have p2 : PostFl W R Ex F0 H0 D ((match asg tg d' σ2 with
          | some σ' => evS body σ' r2
          | none => .stuck).bind fun fl r => match fl with
            | .nx σ' => forR (fun d σ r => match asg tg d σ with
              | some σ' => evS body σ' r
              | none => .stuck) kills (ds.drop (i + 1)) (killS σ' kills) r
            | .cnt σ' => forR (fun d σ r => match asg tg d σ with
              | some σ' => evS body σ' r
              | none => .stuck) kills (ds.drop (i + 1)) (killS σ' kills) r
            | .brk σ' => .ok (.nx (killS σ' kills)) r
            | .ret d => .ok (.ret d) r) := p2
        cases ea : asg tg d' σ2 with
        | none => rw [ea] at p2; exact p2.elim
        | some σ' =>
          rw [ea] at p2
          refine sg H0 F3 H3 σV2 σ2 σ' r2 x d' _ G3 (S2.grow g3) rx ea fun σV' S4 _ _ => ?_
          have gb : Grow R F3 H0 F3 H3 := ⟨Le.refl _, (gr2.trans g3).kept, fun b q1 q2 => absurd q1 q2⟩
          have re : ∀ F4 H4, Grow R F3 H0 F4 H4 → Grow R F0 H0 F4 H4 := fun F4 H4 g4 => ⟨(gr2.trans g3).le.trans g4.le, g4.kept, fun b q1 q2 => by
            by_cases z : F3 b = none
            · exact g4.new b z q2
            · exact (gr2.trans g3).new b q1 z⟩
          have le3 : Le F1 F3 := le2.trans g3.le
          refine sb F3 H0 F3 H3 σV' σ' r2 _ G3 gb S4 ?_
          have p2 : PostFl W R Ex F0 H0 D ((evS body σ' r2).bind fun fl r => match fl with
            | .nx σ' => forR (fun d σ r => match asg tg d σ with
              | some σ' => evS body σ' r
              | none => .stuck) kills (ds.drop (i + 1)) (killS σ' kills) r
            | .cnt σ' => forR (fun d σ r => match asg tg d σ with
              | some σ' => evS body σ' r
              | none => .stuck) kills (ds.drop (i + 1)) (killS σ' kills) r
            | .brk σ' => .ok (.nx (killS σ' kills)) r
            | .ret d => .ok (.ret d) r) := p2
          cases eb : evS body σ' r2 with
          | stuck => rw [eb] at p2; exact p2
          | exc x r3 => rw [eb] at p2; exact fun cls dd F4 H4 a b c => p2 cls dd F4 H4 a (re _ _ b) c
          | ok fl r3 =>
            rw [eb] at p2
            cases fl with
            | nx σ3 => exact fun σV4 F4 H4 G4 g4 S5 => ⟨F4, r3, σ3, G4, re _ _ g4, le3.trans g4.le, S5, p2⟩
            | cnt σ3 => exact fun σV4 F4 H4 G4 g4 S5 => ⟨F4, r3, σ3, G4, re _ _ g4, le3.trans g4.le, S5, p2⟩
            | brk σ3 => exact fun σV4 F4 H4 G4 g4 S5 => p2 σV4 F4 H4 G4 (re _ _ g4) (killS_ok S5 kills)
            | ret d => exact fun v F4 H4 G4 g4 rv => p2 v F4 H4 G4 (re _ _ g4) rv
      · left
        have hie : ds.length = i := by omega
        refine ⟨w2 hie, ?_⟩
        rw [List.drop_eq_nil_of_le (by omega)] at p2
        exact p2 σV2 F2 H2 G2 gr2 S2
end
end DI
set_option Elab.async false
set_option linter.all false
set_option maxRecDepth 100000
/-! Sra: raise of an own exception; name += number. -/
namespace DI
open PySem PySem.Spec PyProof.Rows
open L2 hiding ixN
section
variable {W : Wd} {R : Addr} {Ex : XK} {b : Bool} {k : Nat} {c : SC} {q : Kd} {F H F' H' F1 H1 F0 H0 : Hp} {v : V} {d : D} {X : Cx} {e : E}
theorem zip_lookV {ps : List Str} {us : List V} (hn : ps.Nodup) {i : Nat} {x : Str} {u : V} (h1 : ps[i]? = some x) (h2 : us[i]? = some u) : (ps.zip us).reverse.lookup x = some u := by
  have hm : (x, u) ∈ ps.zip us := List.mem_iff_getElem?.mpr ⟨i, by rw [List.getElem?_zip_eq_some]; exact ⟨h1, h2⟩⟩
  obtain ⟨u', e⟩ := L2.mem_lookup (List.mem_reverse.mpr hm)
  have hm' := List.mem_reverse.mp (PySem.mem_of_lookup e)
  obtain ⟨j, hj⟩ := List.mem_iff_getElem?.mp hm'
  rw [List.getElem?_zip_eq_some] at hj
  have : j = i := nodup_ix hn hj.1 h1
  subst this
  rw [e]
  rw [h2] at hj
  exact hj.2.symm
theorem nt_xd {xs : List (Str × V)} : ¬ IsTbl (.xd xs) := fun ⟨_, e⟩ => by cases e
/-- a new exception's dict comes into the frozen part -/
theorem Good.xd_new {p : Addr} {xs : List (Str × V)} {r : Rho} (G : Good W R F H r) (hp : H p = none) : Good W R (upd F p (.xd xs)) (upd H p (.xd xs)) r ∧ Grow R F H (upd F p (.xd xs)) (upd H p (.xd xs)) := by
  have nF := G.fNone hp
  have le : Le F (upd F p (.xd xs)) := fun b u q => by rw [upd_ne (ne_of_none q nF)]; exact q
  refine ⟨⟨fun b o q => ?_, by rw [upd_ne (G.neR hp).symm]; exact G.fR, fun b o q => ?_, (G.new (o := .xd xs) hp).row.mono le, (G.new hp).tabs, fun c q hc => upd_some ((G.new (o := .xd xs) hp).cod c q hc)⟩, ⟨le, .new hp, fun b q1 q2 => ?_⟩⟩
  · by_cases hb : b = p
    · rw [hb, upd_same] at q; rw [hb, upd_same]; exact q
    · rw [upd_ne hb] at q; rw [upd_ne hb]; exact G.le _ _ q
  · by_cases hb : b = p
    · rw [hb, upd_same] at q; cases q; exact nt_xd
    · rw [upd_ne hb] at q; exact G.ft _ _ q
  · by_cases hb : b = p
    · rw [hb]; exact hp
    · rw [upd_ne hb] at q2; exact absurd q1 q2
theorem sup_nodup {fs : List Str} {pa : Arguments} {sc : Scope} (T : SupT fs pa sc) : fs.Nodup := by
  rcases T.who with e | e | e | e | e <;> subst e <;> decide +kernel
theorem rds_raise (wok : WOk W) {x : Str} {cn n : Nat} {es : E} (ok : OkS W k (.raise x cn n es)) : RdS W R Ex k c (.raise x cn n es) := .of (fun _ => rfl) fun st h => by
  have key : ∃ p a as p1 pos, st = .Raise (some (.Call (.Name x p) (a :: as) [] p1)) none pos ∧ glB c x = true ∧ chk es c (.es (a :: as)) = true := by
    cases st <;> try (exact (Bool.false_ne_true h).elim)
    rename_i ex cs pos
    cases ex with
    | none => exact (Bool.false_ne_true h).elim
    | some ex =>
    cases ex <;> try (exact (Bool.false_ne_true h).elim)
    rename_i f args kws p1
    cases f <;> try (exact (Bool.false_ne_true h).elim)
    rename_i y p
    cases args with
    | nil => exact (Bool.false_ne_true h).elim
    | cons a as =>
    cases kws with
    | cons _ _ => exact (Bool.false_ne_true h).elim
    | nil =>
    cases cs with
    | some _ => exact (Bool.false_ne_true h).elim
    | none =>
    obtain ⟨h1, h2⟩ := ba (show (decide (x = y) && (glB c y && chk es c (.es (a :: as)))) = true from h)
    have := of_decide_eq_true h1
    subst this
    exact ⟨p, a, as, p1, pos, rfl, ba h2⟩
  obtain ⟨p, a, as, p1, pos, rfl, hg, hc⟩ := key
  obtain ⟨⟨hk, hn, ⟨fI, cda, cc, qual, pa, bd, sc, hm, SC, T, hb⟩⟩, nb, oke⟩ := ok
  obtain ⟨t, pt, _, sa, _⟩ := (rd (R := R) wok es Ex c oke).arg _ hc
  have hst := chk_star hc
  obtain ⟨hs1, hs2⟩ := ba (show (notStar a && as.all notStar) = true from hst)
  refine ⟨fun D σ H => tSup (W.ca cn) (W.cf cn) t σ H fun cls d H' => Ex cls d H', fun X hX => ?_, fun F0 H0 F H σV σ ρ D G g S p => ?_⟩
  · obtain ⟨g1, g2⟩ := glB_of hg hX.ok
    have hr : Room (0 + 1) X.A := (hX.ok.room (by omega)).mono (by omega)
    exact ps_raise (hX.ok.calm (by omega)) hX.ok.tk (pmk_sup (by rw [hX.ok.prog, hX.ok.K]; exact SC) T hb hr g1 (by rw [hX.ok.mg]; exact hm) (pt X hX.ok) (not_debug g2).1 (starEach_of hs1) (back_of hs2))
  · have p : PostFl W R Ex F0 H0 D ((ev es σ ρ).bind fun l r => match l with
      | .tup ds => if ds.length = n then .exc ⟨cn, ds⟩ r else .stuck
      | _ => .stuck) := p
    refine (sa nb).then_ G S (Post := PostFl W R Ex F0 H0 D) PostFl.s (PostFl.x g) p (fun d r' hd => ?_) fun ds r1 vs F1 H1 G1 g1 S1 p1 q1 => ?_
    · cases d <;> first | exact fun z => z | exact absurd ⟨_, rfl⟩ hd
    · have q1 : PostFl W R Ex F0 H0 D (if ds.length = n then .exc ⟨cn, ds⟩ r1 else .stuck) := q1
      by_cases hl : ds.length = n
      · rw [if_pos hl] at q1
        have rs := p1.reps
        have hvl : vs.length = (W.cf cn).length := by rw [rs.length, hl, hn]
        refine ⟨hvl, fun dd hdd => ?_⟩
        obtain ⟨G2, g2⟩ := G1.xd_new (xs := ((W.cf cn).zip vs).reverse) hdd
        refine q1 _ _ _ _ G2 ((g.trans g1).trans g2) ⟨dd, _, rfl, rfl, upd_same, fun j f hf => ?_, by rw [hl, hn]⟩
        have hj : j < vs.length := by
          have h2 : j < (W.cf cn).length := (List.getElem?_eq_some_iff.mp hf).1
          omega
        obtain ⟨y, e1, e2⟩ := rs.get' (List.getElem?_eq_getElem hj)
        exact ⟨vs[j], y, zip_lookV (sup_nodup T) hf (List.getElem?_eq_getElem hj), e1, e2.mono g2.le⟩
      · rw [if_neg hl] at q1; exact q1.elim
theorem rds_aug (wok : WOk W) {i : Nat} {e : E} (ok : OkE W k e) : RdS W R Ex k c (.aug i e) := .of (fun _ => rfl) fun st h => by
  have key : ∃ y p x pos, st = .AugAssign (.Name y p) .Add x pos ∧ locB c y i = true ∧ chk e c (.e x) = true := by
    cases st <;> try (exact (Bool.false_ne_true h).elim)
    rename_i t o x pos
    cases t <;> try (exact (Bool.false_ne_true h).elim)
    rename_i y p
    cases o <;> try (exact (Bool.false_ne_true h).elim)
    exact ⟨y, p, x, pos, rfl, ba (show (locB c y i && chk e c (.e x)) = true from h)⟩
  obtain ⟨y, p, x, pos, rfl, h1, h2⟩ := key
  obtain ⟨t, pt, st⟩ := (rd (R := R) wok e Ex c ok).val x h2
  refine ⟨tAug i t (ipI fun i j => i + j), fun X hX => ?_, fun F0 H0 F H σV σ ρ D G g S p => ?_⟩
  · obtain ⟨n1, n2, n3⟩ := locB_of h1 hX.ok
    exact ps_aug (by rw [hX.ok.N]; exact hX.ok.nd) n1 n2 (pt X hX.ok) ip_add n3
  · have p : PostFl W R Ex F0 H0 D (match σ[i]? with
      | some (.val (.int a)) => (ev e σ ρ).bind fun y r => (match y with
        | .int b => .ok (.nx (σ.set i (.val (.int (a + b))))) r
        | _ => .stuck)
      | _ => .stuck) := p
    cases hs : σ[i]? with
    | none => rw [hs] at p; exact p.elim
    | some s =>
      rw [hs] at p
      cases s with
      | val d =>
        cases d with
        | int a =>
          obtain ⟨v, e1, rv⟩ := S.at_ i _ hs
          cases rv
          refine ⟨.int a, join_some e1, ?_⟩
          refine st.thenS G g S p fun d r' v F' H' G' g' S' p' q' => ?_
          cases d <;> try (exact q'.elim)
          rename_i b
          obtain rfl := p'.bb.int
          exact ⟨a, b, rfl, rfl, q' _ F' H' G' g' (S'.set ⟨.int (a + b), rfl, .int _⟩ fun j u a _ _ hw => by cases hw)⟩
        | _ => exact p.elim
      | _ => exact p.elim
end
end DI
set_option Elab.async false
set_option linter.all false
set_option maxRecDepth 100000
/-! Sw: a list's own methods, o[i] = v, fields, several names at once; every statement has a reading that is met. -/
namespace DI
open PySem PySem.Spec PyProof.Rows
open L2 hiding ixN
section
variable {W : Wd} {R : Addr} {Ex : XK} {b : Bool} {k : Nat} {c : SC} {q : Kd} {F H F' H' F1 H1 F0 H0 : Hp} {v : V} {d : D} {X : Cx} {e : E}
/-- one's own object is rewritten -/
theorem own_write {a : Addr} {o o' : HO} {r : Rho} (G : Good W R F H r) (g : Grow R F0 H0 F H) (e : H a = some o) (nt : ¬ IsTbl o) (nf : ∀ x u, o ≠ .frz x u) (nc : ∀ φ, o ≠ .ext φ) (h1 : F a = none) (h2 : a ≠ R) (h3 : H0 a = none) (no : match o' with | .ext _ => False | _ => True := by trivial) :
    Good W R F (upd H a o') r ∧ Grow R F0 H0 F (upd H a o') :=
  ⟨G.write e nt nf nc h1 h2 no, ⟨g.le, fun b u q => by
    obtain ⟨u', e1, k1, k2⟩ := g.kept b u q
    exact ⟨u', by rw [upd_ne (ne_of_none q h3)]; exact e1, k1, k2⟩, g.new⟩⟩
theorem own_slots {σV : L2.St} {σ : St} {a : Addr} {i : Nat} {s : Slot} {o' : HO} (S : StOk W R H0 F H σV σ) (hi : σ[i]? = some s) (hs : isOwn s = true) (ha : σV[i]? = some (some (.ref a))) {s' : Slot} (hs' : isOwn s' = true) (h : SlotOk W R H0 F (upd H a o') (some (.ref a)) s') :
    StOk W R H0 F (upd H a o') σV (σ.set i s') := by
  refine ⟨by rw [List.length_set, S.len], fun j u hj => ?_, fun j l u w x hj hl hu hw hja hla => ?_⟩
  · by_cases e : i = j
    · subst e
      rw [List.getElem?_set, if_pos rfl] at hj
      split at hj
      · cases hj; rw [ha]; exact h
      · cases hj
    · rw [List.getElem?_set_ne e] at hj
      have so := S.at_ j u hj
      have ne : ∀ b, isOwn u = true → (σV[j]?).join = some (.ref b) → b ≠ a := fun b hu hb z => by
        subst z
        exact e (S.apart i j s u b hi hj hs hu ha (join_some hb))
      cases u with
      | un => trivial
      | val d => exact so
      | exc x => exact so
      | own ds => obtain ⟨b, xs, e1, a1, a2⟩ := so; exact ⟨b, xs, e1, by rw [upd_ne (ne b rfl e1)]; exact a1, a2⟩
      | ownd ds => obtain ⟨b, xs, e1, a1, a2⟩ := so; exact ⟨b, xs, e1, by rw [upd_ne (ne b rfl e1)]; exact a1, a2⟩
      | me cn ds => obtain ⟨b, dx, xs, e1, a1, a2⟩ := so; exact ⟨b, dx, xs, e1, by rw [upd_ne (ne b rfl e1)]; exact a1, a2⟩
  · have gg : ∀ j u, (σ.set i s')[j]? = some u → isOwn u = true → ∃ u', σ[j]? = some u' ∧ isOwn u' = true := fun j u e o => by
      by_cases z : i = j
      · subst z; exact ⟨s, hi, hs⟩
      · rw [List.getElem?_set_ne z] at e; exact ⟨u, e, o⟩
    obtain ⟨u', e1, o1⟩ := gg j u hj hu
    obtain ⟨w', e2, o2⟩ := gg l w hl hw
    exact S.apart j l u' w' x e1 e2 o1 o2 hja hla
theorem mtr_append : MtR X "list.append" rAppend := mt_append
theorem mtr_extend : MtR X "list.extend" rExtend := mt_extend
theorem rds_app (wok : WOk W) {i : Nat} {e : E} (ok : OkS W k (.app i e)) : RdS W R Ex k c (.app i e) := .of (fun _ => rfl) fun st h => by
  have key : ∃ y p0 p a q pos, st = .Expr (.Call (.Attribute (.Name y p0) "append" p) [a] [] q) pos ∧ visB c y i = true ∧ (p.endLine == q.line) = true ∧ notStar a = true ∧ chk e c (.e a) = true := by
    cases st <;> try (exact (Bool.false_ne_true h).elim)
    rename_i x pos
    cases x <;> try (exact (Bool.false_ne_true h).elim)
    rename_i f args kws q
    cases f <;> try (exact (Bool.false_ne_true h).elim)
    rename_i o m p
    cases o <;> try (exact (Bool.false_ne_true h).elim)
    rename_i y p0
    match args, kws, h with
    | [a], [], h =>
      obtain ⟨h1, h2⟩ := ba (show (decide (m = "append") && (visB c y i && ((p.endLine == q.line) && (notStar a && chk e c (.e a))))) = true from h)
      have : m = "append" := of_decide_eq_true h1
      subst this
      obtain ⟨h2, h3⟩ := ba h2
      obtain ⟨h3, h4⟩ := ba h3
      exact ⟨y, p0, p, a, q, pos, rfl, h2, h3, ba h4⟩
  obtain ⟨y, p0, p, a, q, pos, rfl, h1, h2, h3, h4⟩ := key
  obtain ⟨te, pt, st⟩ := (rd (R := R) wok e Ex c ok.2).val a h4
  refine ⟨tDrop (tBM W.K "list" rAppend (tVar i) (tCons te tNil)), fun X hX => ?_, fun F0 H0 F H σV σ ρ D G g S p => ?_⟩
  · obtain ⟨n1, n2, n3⟩ := visB_of h1 hX.ok
    refine ps_expr ?_ (by rfl)
    rw [← hX.ok.K]
    exact pe_bm PySem.F.plainAttrs_list PySem.F.slot_list_append PySem.F.type_list_append mtr_append (pe_var n1 n2 (not_debug n3).1 (not_debug n3).2.1) (pa_cons (pt X hX.ok) pa_nil (starEach_of h3)) (base_of rfl) (few_of (by rw [List.all_cons, h3]; rfl) (by decide)) h2 (starEach_of h3) (back_of rfl)
  · have p : PostFl W R Ex F0 H0 D (match σ[i]? with
      | some (.own ds) => (ev e σ ρ).bind fun d r => if ds.length < sizeLine then .ok (.nx (σ.set i (.own (ds ++ [d])))) r else .stuck
      | _ => .stuck) := p
    cases es : σ[i]? with
    | none => rw [es] at p; exact p.elim
    | some s =>
      rw [es] at p
      cases s with
      | own ds =>
        obtain ⟨l, xs, e1, a1, a2, a3, a4, a5, a6⟩ := S.at_ i _ es
        refine ⟨.ref l, join_some e1, .inl ⟨rfl, xs, .of a1⟩, ?_⟩
        refine (st.toC (noB_ne ok.1)).thenS G g S p fun d r' v F1 H1 G1 g1 S1 p1 q1 => ?_
        by_cases hl : ds.length < sizeLine
        · rw [if_pos hl] at q1
          obtain ⟨l', xs', e1', b1, b2, b3, b4, b5, b6⟩ := S1.at_ i _ es
          have : l' = l := by rw [e1] at e1'; cases e1'; rfl
          subst this
          obtain ⟨G2, g2⟩ := own_write (o' := .lst (xs' ++ [v])) G1 g1 b1 nt_lst (fun _ _ z => by cases z) (fun _ z => by cases z) b4 b5 b6
          refine ⟨l', xs', v, rfl, rfl, b1, by rw [b3.length]; exact hl, ?_⟩
          refine q1 σV F1 _ G2 g2 (own_slots S1 es rfl (join_some e1) rfl ⟨l', _, rfl, upd_same, ?_, b3.append (.cons p1 .nil), b4, b5, b6⟩)
          rw [List.length_append]
          have := b3.length
          show xs'.length + 1 ≤ sizeLine
          omega
        · rw [if_neg hl] at q1; exact q1.elim
      | _ => exact p.elim
theorem rds_ext (wok : WOk W) {i : Nat} {e : E} (ok : OkS W k (.ext i e)) : RdS W R Ex k c (.ext i e) := .of (fun _ => rfl) fun st h => by
  have key : ∃ y p0 p a q pos, st = .Expr (.Call (.Attribute (.Name y p0) "extend" p) [a] [] q) pos ∧ visB c y i = true ∧ (p.endLine == q.line) = true ∧ notStar a = true ∧ chk e c (.e a) = true := by
    cases st <;> try (exact (Bool.false_ne_true h).elim)
    rename_i x pos
    cases x <;> try (exact (Bool.false_ne_true h).elim)
    rename_i f args kws q
    cases f <;> try (exact (Bool.false_ne_true h).elim)
    rename_i o m p
    cases o <;> try (exact (Bool.false_ne_true h).elim)
    rename_i y p0
    match args, kws, h with
    | [a], [], h =>
      obtain ⟨h1, h2⟩ := ba (show (decide (m = "extend") && (visB c y i && ((p.endLine == q.line) && (notStar a && chk e c (.e a))))) = true from h)
      have : m = "extend" := of_decide_eq_true h1
      subst this
      obtain ⟨h2, h3⟩ := ba h2
      obtain ⟨h3, h4⟩ := ba h3
      exact ⟨y, p0, p, a, q, pos, rfl, h2, h3, ba h4⟩
  obtain ⟨y, p0, p, a, q, pos, rfl, h1, h2, h3, h4⟩ := key
  obtain ⟨te, pt, st⟩ := (rd (R := R) wok e Ex c ok).val a h4
  refine ⟨tDrop (tBM W.K "list" rExtend (tVar i) (tCons te tNil)), fun X hX => ?_, fun F0 H0 F H σV σ ρ D G g S p => ?_⟩
  · obtain ⟨n1, n2, n3⟩ := visB_of h1 hX.ok
    refine ps_expr ?_ (by rfl)
    rw [← hX.ok.K]
    exact pe_bm PySem.F.plainAttrs_list PySem.F.slot_list_extend PySem.F.type_list_extend mtr_extend (pe_var n1 n2 (not_debug n3).1 (not_debug n3).2.1) (pa_cons (pt X hX.ok) pa_nil (starEach_of h3)) (base_of rfl) (few_of (by rw [List.all_cons, h3]; rfl) (by decide)) h2 (starEach_of h3) (back_of rfl)
  · have p : PostFl W R Ex F0 H0 D (match σ[i]? with
      | some (.own ds) => (ev e σ ρ).bind fun d r => (match d with
        | .lst es => if ds.length + es.length ≤ sizeLine then .ok (.nx (σ.set i (.own (ds ++ es)))) r else .stuck
        | _ => .stuck)
      | _ => .stuck) := p
    cases es : σ[i]? with
    | none => rw [es] at p; exact p.elim
    | some s =>
      rw [es] at p
      cases s with
      | own ds =>
        obtain ⟨l, xs, e1, a1, a2, a3, a4, a5, a6⟩ := S.at_ i _ es
        refine ⟨.ref l, join_some e1, .inl ⟨rfl, xs, .of a1⟩, ?_⟩
        refine st.thenS G g S p fun d r' v F1 H1 G1 g1 S1 p1 q1 => ?_
        cases d <;> try (exact q1.elim)
        rename_i fs
        have q1 : PostFl W R Ex F0 H0 D (if ds.length + fs.length ≤ sizeLine then .ok (.nx (σ.set i (.own (ds ++ fs)))) r' else .stuck) := q1
        by_cases hl : ds.length + fs.length ≤ sizeLine
        · rw [if_pos hl] at q1
          obtain ⟨l', xs', e1', b1, b2, b3, b4, b5, b6⟩ := S1.at_ i _ es
          have : l' = l := by rw [e1] at e1'; cases e1'; rfl
          subst this
          obtain ⟨m, zs, rfl, c1, c2, c3⟩ := p1.bb.lst G1.le
          obtain ⟨G2, g2⟩ := own_write (o' := .lst (xs' ++ zs)) G1 g1 b1 nt_lst (fun _ _ z => by cases z) (fun _ z => by cases z) b4 b5 b6
          refine ⟨l', m, xs', zs, rfl, rfl, b1, c1, by rw [b3.length, c3.length]; exact hl, ?_⟩
          refine q1 σV F1 _ G2 g2 (own_slots S1 es rfl (join_some e1) rfl ⟨l', _, rfl, upd_same, ?_, b3.append c3, b4, b5, b6⟩)
          rw [List.length_append, b3.length, c3.length]
          exact hl
        · rw [if_neg hl] at q1; exact q1.elim
      | _ => exact p.elim
/-! ### o[i] = v -/
def setB : TSet := fun o i v H Q => rSetL o i v H Q ∨ rSetD o i v H Q
theorem pset_b (hu : X.A.units + 1 < cLine) : PSet X setB := by
  intro pins s σ H o i v ov iv u Q I ro ri rv h
  rcases h with h | h
  · exact set_list pins s σ H o i v ov iv u Q I ro ri rv h
  · exact set_dict hu pins s σ H o i v ov iv u Q I ro ri rv h
theorem putK_length : ∀ (kvs : List (Key × V)) (k : Key) (v : V), (putK kvs k v).length ≤ kvs.length + 1
  | kvs, k, v => by
    unfold putK
    split <;> simp
theorem rds_put (wok : WOk W) {i : Nat} {ke e : E} (ok : OkS W k (.put i ke e)) : RdS W R Ex k c (.put i ke e) := .of (fun _ => rfl) fun st h => by
  have key : ∃ y p0 kx p2 x pos, st = .Assign [.Subscript (.Name y p0) kx p2] x pos ∧ visB c y i = true ∧ notSlice kx = true ∧ notComp x = true ∧ chk ke c (.e kx) = true ∧ chk e c (.e x) = true := by
    cases st <;> try (exact (Bool.false_ne_true h).elim)
    rename_i tgs x pos
    match tgs, h with
    | [.Subscript (.Name y p0) kx p2], h =>
      obtain ⟨h1, h2⟩ := ba (show (visB c y i && (notSlice kx && (notComp x && (chk ke c (.e kx) && chk e c (.e x))))) = true from h)
      obtain ⟨h3, h4⟩ := ba h2
      obtain ⟨h5, h6⟩ := ba h4
      exact ⟨y, p0, kx, p2, x, pos, rfl, h1, h3, h5, ba h6⟩
  obtain ⟨y, p0, kx, p2, x, pos, rfl, h1, h0, h2, h4, h3⟩ := key
  obtain ⟨te, pt, st⟩ := (rd (R := R) wok e Ex c ok.2.2).val x h3
  obtain ⟨tk, pk, sk⟩ := (rd (R := R) wok ke Ex c ok.1).val kx h4
  refine ⟨tAsg te (gSub (tVar i) tk setB), fun X hX => ?_, fun F0 H0 F H σV σ ρ D G g S p => ?_⟩
  · obtain ⟨n1, n2, n3⟩ := visB_of h1 hX.ok
    exact ps_asg (pt X hX.ok) (pg_sub (pe_var n1 n2 (not_debug n3).1 (not_debug n3).2.1) (pk X hX.ok) (pset_b (by have := hX.ok.units; omega)) (fun v => by cases kx <;> first | rfl | exact (Bool.false_ne_true h0).elim)) (by clear h3 pt st h; cases x <;> first | rfl | exact (Bool.false_ne_true h2).elim)
  · refine (st.toC (noB_ne ok.2.1)).thenS G g S p fun d r' v F1 H1 G1 g1 S1 p1 q1 => ?_
    cases es : σ[i]? with
    | none => rw [es] at q1; exact q1.elim
    | some sl =>
      rw [es] at q1
      cases sl with
      | own ds =>
        obtain ⟨l, xs, e1, a1, a2, a3, a4, a5, a6⟩ := S1.at_ i _ es
        refine ⟨.ref l, join_some e1, ?_⟩
        refine sk.then_ G1 S1 (Post := PostFl W R Ex F0 H0 D) PostFl.s (PostFl.x g1) q1 fun dk r2 vk F2 H2 G2 gz S2 p2 q2 => ?_
        have g2 := g1.trans gz
        cases dk <;> try (exact q2.elim)
        rename_i j
        obtain rfl := p2.bb.int
        have q2 : PostFl W R Ex F0 H0 D (match DI.ixN ds.length j with
          | some m => .ok (.nx (σ.set i (.own (ds.set m d)))) r2
          | none => .stuck) := q2
        cases em : DI.ixN ds.length j with
        | none => rw [em] at q2; exact q2.elim
        | some m =>
          rw [em] at q2
          obtain ⟨l', xs', e1', b1, b2, b3, b4, b5, b6⟩ := S2.at_ i _ es
          have : l' = l := by rw [e1] at e1'; cases e1'; rfl
          subst this
          obtain ⟨G3, g3⟩ := own_write (o' := .lst (xs'.set m v)) G2 g2 b1 nt_lst (fun _ _ z => by cases z) (fun _ z => by cases z) b4 b5 b6
          refine .inl ⟨l', xs', j, m, rfl, rfl, b1, by rw [b3.length, ← ixN_eq, em], ?_⟩
          have pv : Rep W R F2 v d := p1.mono gz.le
          refine q2 σV F2 _ G3 g3 (own_slots S2 es rfl (join_some e1) rfl ⟨l', _, rfl, upd_same, ?_, b3.set pv m, b4, b5, b6⟩)
          rw [List.length_set]; exact b2
      | ownd kvs =>
        obtain ⟨l, xs, e1, a1, a2, a3, a4, a5, a6⟩ := S1.at_ i _ es
        refine ⟨.ref l, join_some e1, ?_⟩
        refine sk.then_ G1 S1 (Post := PostFl W R Ex F0 H0 D) PostFl.s (PostFl.x g1) q1 fun dk r2 vk F2 H2 G2 gz S2 p2 q2 => ?_
        have g2 := g1.trans gz
        by_cases hk : isKey dk = true ∧ kvs.length < sizeLine
        · rw [if_pos hk] at q2
          obtain ⟨ky, rfl, rfl, hk2⟩ := DI.key_of hk.1 (p2.bb.rep (by cases dk <;> first | rfl | exact (Bool.false_ne_true hk.1).elim))
          obtain ⟨l', xs', e1', b1, b2, b3, b4, b5, b6⟩ := S2.at_ i _ es
          have : l' = l := by rw [e1] at e1'; cases e1'; rfl
          subst this
          obtain ⟨G3, g3⟩ := own_write (o' := .dK (putK xs' ky v)) G2 g2 b1 nt_dK (fun _ _ z => by cases z) (fun _ z => by cases z) b4 b5 b6
          refine .inr ⟨l', _, rfl, DPut.k b1 (by rw [b3.length]; exact hk.2), ?_⟩
          have pv : Rep W R F2 v d := p1.mono gz.le
          refine q2 σV F2 _ G3 g3 (own_slots S2 es rfl (join_some e1) rfl ⟨l', _, rfl, upd_same, ?_, repKV_put b3 hk2 pv, b4, b5, b6⟩)
          have := putK_length xs' ky v
          have h9 := hk.2
          rw [← b3.length] at h9
          omega
        · rw [if_neg hk] at q2; exact q2.elim
      | _ => exact q1.elim
/-! ### row[j] = e -/
theorem Good.rowset {r r' : Rho} {j : Nat} {v : Int} (G : Good W R F H r) (g : Grow R F0 H0 F H) (e : rowSet r v j = some r') : ∃ xs m, H R = some (.lst xs) ∧ L2.ixN xs.length (j : Int) = some m ∧ Good W R F (upd H R (.lst (xs.set m (.int v)))) r' ∧ Grow R F0 H0 F (upd H R (.lst (xs.set m (.int v)))) := by
  obtain ⟨a, e1, e2⟩ := G.row
  have main : ∀ xs', (∃ x1 x2 x3, xs' = [.ref a, .int x1, .int x2, .int x3] ∧ r'.i = x1 ∧ r'.n = x2 ∧ r'.c = x3) → r'.ns = r.ns → Good W R F (upd H R (.lst xs')) r' ∧ Grow R F0 H0 F (upd H R (.lst xs')) := by
    intro xs' hx hn
    obtain ⟨x1, x2, x3, rfl, h1, h2, h3⟩ := hx
    have keep : ∀ b u, b ≠ R → H b = some u → upd H R (.lst [.ref a, .int x1, .int x2, .int x3]) b = some u := fun b u hb e => by rw [upd_ne hb]; exact e
    refine ⟨⟨fun b u q => ?_, G.fR, G.ft, ⟨a, by rw [upd_same, h1, h2, h3], by rw [hn]; exact e2⟩, fun p hp => ?_, fun c q hc => ?_⟩, ⟨g.le, fun b u q => ?_, g.new⟩⟩
    · exact keep _ _ (fun z => by rw [z, G.fR] at q; cases q) (G.le _ _ q)
    · obtain ⟨ps, h1, h2, h3⟩ := G.tabs p hp
      refine ⟨ps, keep _ _ (fun z => ?_) h1, h2, fun pos cv hc => ?_⟩
      · rw [z, e1] at h1; cases h1
      · obtain ⟨c, c1, c2⟩ := h3 pos cv hc
        exact ⟨c, c1, keep _ _ (fun z => by rw [z, e1] at c2; cases c2) c2⟩
    · by_cases hb : c = R
      · rw [hb, upd_same] at hc; cases hc
      · rw [upd_ne hb] at hc; exact G.cod c q hc
    · obtain ⟨u', k1, k2, k3⟩ := g.kept b u q
      by_cases hb : b = R
      · subst hb
        refine ⟨_, upd_same, fun z => absurd rfl z, fun t => ?_⟩
        have := k3 t
        rw [e1] at k1; cases k1
        exact absurd this nt_lst
      · exact ⟨u', keep _ _ hb k1, k2, k3⟩
  match j, e with
  | 1, e => cases e; exact ⟨_, 1, e1, rfl, main _ ⟨_, _, _, rfl, rfl, rfl, rfl⟩ rfl⟩
  | 2, e => cases e; exact ⟨_, 2, e1, rfl, main _ ⟨_, _, _, rfl, rfl, rfl, rfl⟩ rfl⟩
  | 3, e => cases e; exact ⟨_, 3, e1, rfl, main _ ⟨_, _, _, rfl, rfl, rfl, rfl⟩ rfl⟩
theorem rds_rowset (wok : WOk W) {i j : Nat} {e : E} (ok : OkS W k (.rowset i j e)) : RdS W R Ex k c (.rowset i j e) := .of (fun _ => rfl) fun st h => by
  have key : ∃ y p0 u v p2 x pos, st = .Assign [.Subscript (.Name y p0) (.Constant (.int (j : Int)) u v) p2] x pos ∧ visB c y i = true ∧ notComp x = true ∧ chk e c (.e x) = true := by
    cases st <;> try (exact (Bool.false_ne_true h).elim)
    rename_i tgs x pos
    match tgs, h with
    | [.Subscript (.Name y p0) (.Constant (.int z) u v) p2], h =>
      obtain ⟨h1, h2⟩ := ba (show (decide (z = (j : Int)) && (visB c y i && (notComp x && chk e c (.e x)))) = true from h)
      have := of_decide_eq_true h1
      subst this
      obtain ⟨h3, h4⟩ := ba h2
      exact ⟨y, p0, u, v, p2, x, pos, rfl, h3, ba h4⟩
  obtain ⟨y, p0, u, v, p2, x, pos, rfl, h1, h2, h3⟩ := key
  obtain ⟨te, pt, st⟩ := (rd (R := R) wok e Ex c ok).val x h3
  refine ⟨tAsg te (gSub (tVar i) (tC (.int j)) rSetL), fun X hX => ?_, fun F0 H0 F H σV σ ρ D G g S p => ?_⟩
  · obtain ⟨n1, n2, n3⟩ := visB_of h1 hX.ok
    exact ps_asg (pt X hX.ok) (pg_sub (pe_var n1 n2 (not_debug n3).1 (not_debug n3).2.1) pe_int set_list) (by clear h3 pt st h; cases x <;> first | rfl | exact (Bool.false_ne_true h2).elim)
  · refine st.thenS G g S p fun d r' v F1 H1 G1 g1 S1 p1 q1 => ?_
    cases es : σ[i]? with
    | none => rw [es] at q1; exact q1.elim
    | some sl =>
      rw [es] at q1
      cases sl with
      | val dv =>
        cases dv <;> try (exact q1.elim)
        cases d <;> try (exact q1.elim)
        rename_i w
        obtain ⟨vr, e1, rr⟩ := S1.at_ i _ es
        have e1 : σV[i]? = some (some vr) := by
          cases q : σV[i]? with
          | none => rw [q] at e1; cases e1
          | some z => rw [q] at e1; have e1 : z = some vr := e1; rw [e1]
        have e9 : vr = .ref R := by cases rr; rfl
        subst e9
        obtain rfl := p1.bb.int
        have q1 : PostFl W R Ex F0 H0 D (match rowSet r' w j with
          | some r => .ok (.nx σ) r
          | none => .stuck) := q1
        cases er : rowSet r' w j with
        | none => rw [er] at q1; exact q1.elim
        | some r2 =>
          rw [er] at q1
          obtain ⟨xs, m, a1, a2, G2, g2⟩ := G1.rowset g1 er
          refine ⟨.ref R, e1, R, xs, j, m, rfl, rfl, a1, a2, ?_⟩
          refine q1 σV F1 _ G2 g2 ⟨S1.len, fun i' s' e' => ?_, S1.apart⟩
          have so := S1.at_ i' s' e'
          cases s' with
          | un => trivial
          | val d => exact so
          | exc x => exact so
          | own ds => obtain ⟨b, xs, e1, a1, a2, a3, a4, a5, a6⟩ := so; exact ⟨b, xs, e1, by rw [upd_ne a5]; exact a1, a2, a3, a4, a5, a6⟩
          | ownd ds => obtain ⟨b, xs, e1, a1, a2, a3, a4, a5, a6⟩ := so; exact ⟨b, xs, e1, by rw [upd_ne a5]; exact a1, a2, a3, a4, a5, a6⟩
          | me cn ds => obtain ⟨b, dx, xs, e1, a1, a2, a3, a4, a5, a6⟩ := so; exact ⟨b, dx, xs, e1, by rw [upd_ne a5]; exact a1, a2, a3, a4, a5, a6⟩
      | _ => exact q1.elim
/-! ### fields -/
theorem putF_new : ∀ {fs : List (Str × V)} {f : Str} {v : V}, f ∉ fs.map (·.1) → putF f v fs = fs ++ [(f, v)]
  | [], _, _, _ => rfl
  | (g, x) :: r, f, v, h => by
    have hne : g ≠ f := fun z => h (by rw [z]; exact List.mem_cons_self ..)
    show (if g = f then _ else _) = _
    rw [if_neg hne, putF_new (fun z => h (List.mem_cons_of_mem _ z))]
    rfl
theorem idx_le : ∀ {l : List Str} {i : Nat} {f : Str}, l[i]? = some f → l.idxOf f ≤ i
  | [], i, f, h => by cases h
  | g :: l, 0, f, h => by cases h; simp
  | g :: l, i + 1, f, h => by
    have := idx_le (l := l) (i := i) (f := f) (by simpa using h)
    rw [List.idxOf_cons]
    cases (g == f) <;> simp <;> omega
theorem take_ix {l : List Str} {f : Str} {j : Nat} (h : l.idxOf f = j) (hl : j < l.length) : f ∉ l.take j ∧ l.take (j + 1) = l.take j ++ [f] := by
  have hf : l[j]? = some f := by
    subst h
    have hm : f ∈ l := List.idxOf_lt_length_iff.mp hl
    rw [List.getElem?_eq_getElem hl, List.getElem_idxOf]
  refine ⟨fun hm => ?_, ?_⟩
  · obtain ⟨i, hi⟩ := List.mem_iff_getElem?.mp hm
    rw [List.getElem?_take] at hi
    split at hi
    · rename_i hlt
      have := idx_le hi
      omega
    · cases hi
  · rw [List.take_add_one, hf]; rfl
/-- a field comes to the new object -/
theorem me_step {σV : L2.St} {σ : St} {cn j : Nat} {f : Str} {ds : List DI.D} {r : Rho} (fl : FldS W cn j f) (G : Good W R F H r) (g : Grow R F0 H0 F H) (S : StOk W R H0 F H σV σ) (e : σ[(0 : Nat)]? = some (.me cn ds)) (hj : ds.length = j) (rv : Rep W R F v d) :
    ∃ dx fs, σV[(0 : Nat)]? = some (some (.ref W.me)) ∧ H W.me = some (.ins (W.ca cn) dx fs) ∧ fs.length < 1000 ∧
      Good W R F (upd H W.me (.ins (W.ca cn) dx (putF f v fs))) r ∧ Grow R F0 H0 F (upd H W.me (.ins (W.ca cn) dx (putF f v fs))) ∧ StOk W R H0 F (upd H W.me (.ins (W.ca cn) dx (putF f v fs))) σV (σ.set 0 (.me cn (ds ++ [d]))) := by
  obtain ⟨a, dx, fs, e1, a1, a2, a3, a4, a5, a6, a7⟩ := S.at_ 0 _ e
  subst a7
  have hl : fs.length = ds.length := by
    have := a3.length
    rwa [List.length_map] at this
  obtain ⟨t1, t2⟩ := take_ix fl.ix fl.lt
  have hp : putF f v fs = fs ++ [(f, v)] := putF_new (by rw [a2, hj]; exact t1)
  obtain ⟨G2, g2⟩ := own_write (o' := .ins (W.ca cn) dx (putF f v fs)) G g a1 nt_ins (fun _ _ z => by cases z) (fun _ z => by cases z) a4 a5 a6
  refine ⟨dx, fs, join_some e1, a1, by have := fl.lt; have := fl.few; omega, G2, g2, own_slots S e rfl (join_some e1) rfl ⟨W.me, dx, putF f v fs, rfl, upd_same, ?_, ?_, a4, a5, a6, rfl⟩⟩
  · rw [hp, List.map_append, a2, List.length_append, hj]
    exact t2.symm
  · rw [hp, List.map_append]
    exact a3.append (.cons rv .nil)
theorem rds_fset (wok : WOk W) {cn j : Nat} {f : Str} {e : E} (ok : OkS W k (.fset cn j f e)) : RdS W R Ex k c (.fset cn j f e) := .of (fun _ => rfl) fun st h => by
  have key : ∃ y p0 p x pos, st = .Assign [.Attribute (.Name y p0) f p] x pos ∧ visB c y 0 = true ∧ notComp x = true ∧ chk e c (.e x) = true := by
    cases st <;> try (exact (Bool.false_ne_true h).elim)
    rename_i tgs x pos
    cases tgs with
    | nil => exact (Bool.false_ne_true h).elim
    | cons t tgs =>
    cases t <;> try (exact (Bool.false_ne_true h).elim)
    rename_i o g p
    cases o <;> try (exact (Bool.false_ne_true h).elim)
    rename_i y p0
    cases tgs with
    | cons _ _ => exact (Bool.false_ne_true h).elim
    | nil =>
    obtain ⟨h1, h2⟩ := ba (show (decide (f = g) && (visB c y 0 && (notComp x && chk e c (.e x)))) = true from h)
    have : f = g := of_decide_eq_true h1
    subst this
    obtain ⟨h2, h3⟩ := ba h2
    exact ⟨y, p0, p, x, pos, rfl, h2, ba h3⟩
  obtain ⟨y, p0, p, x, pos, rfl, h1, h2, h3⟩ := key
  obtain ⟨nb, fl, ok⟩ := ok
  obtain ⟨te, pt, st⟩ := (rd (R := R) wok e Ex c ok).val x h3
  refine ⟨sFld W.K (tVar 0) te f, fun X hX => ?_, fun F0 H0 F H σV σ ρ D G g S p => ?_⟩
  · obtain ⟨n1, n2, n3⟩ := visB_of h1 hX.ok
    rw [← hX.ok.K]
    exact ps_fld (pe_var n1 n2 (not_debug n3).1 (not_debug n3).2.1) (pt X hX.ok) (swaps_of h2)
  · refine (st.toC (noB_ne nb)).thenS G g S p fun d r' v F1 H1 G1 g1 S1 p1 q1 => ?_
    have q1 : PostFl W R Ex F0 H0 D (match σ[(0 : Nat)]? with
      | some (.me c' ds) => if c' = cn ∧ ds.length = j then .ok (.nx (σ.set 0 (.me cn (ds ++ [d])))) r' else .stuck
      | _ => .stuck) := q1
    cases es : σ[(0 : Nat)]? with
    | none => rw [es] at q1; exact q1.elim
    | some s =>
      rw [es] at q1
      cases s with
      | me c' ds =>
        have q1 : PostFl W R Ex F0 H0 D (if c' = cn ∧ ds.length = j then .ok (.nx (σ.set 0 (.me cn (ds ++ [d])))) r' else .stuck) := q1
        by_cases hc : c' = cn ∧ ds.length = j
        · rw [if_pos hc] at q1
          obtain ⟨rfl, hj⟩ := hc
          obtain ⟨dx, fs, e1, e2, e3, G2, g2, S2⟩ := me_step fl G1 g1 S1 es hj p1
          exact ⟨.ref W.me, e1, W.me, W.ca c', dx, fs, rfl, e2, fl.cls, fl.no, e3, q1 σV F1 _ G2 g2 S2⟩
        · rw [if_neg hc] at q1; exact q1.elim
      | _ => exact q1.elim
/-- self.f, .. = : several fields -/
def gAttr (K : PySem.W.Frag) (ta : TE) (f : Str) : TG := fun y σ H Q => ta σ H fun x H2 => ∃ a C dx fs, x = .ref a ∧ H2 a = some (.ins C dx fs) ∧ Cls K C ∧ NoAttr K C f ∧ fs.length < 1000 ∧ Q σ (upd H2 a (.ins C dx (putF f y fs)))
theorem pg_attr {o : Expr} {f : Str} {ta : TE} {pos : Pos} (ha : PE X o ta) : PG X (.Attribute o f pos) (gAttr X.K ta f) := by
  refine ⟨fun pins s σ H v u Q I r h => ?_⟩
  rw [PySem.arm_assign_Attribute]
  refine wpAny_bind (wpAny_holding (thn (ha.run pins s σ H _ I h) fun ov s1 ⟨x, H1, I1, r1, q1⟩ => ?_))
  obtain ⟨a, C, dx, fs, ex, ea, c, n, l, q2⟩ := q1
  subst ex
  obtain rfl : ov = Value.ref a := r1
  refine wpAny_bind (wpAny_standAt (wpAny_bind (wpAny_holding (setattr_ok I1 ea c n l r fun s3 I3 => ?_))))
  exact wpAny_release ⟨σ, _, I3, q2⟩
def gAttrs (K : PySem.W.Frag) : List Str → TGs
  | [] => gNil
  | f :: fs => gCons (gAttr K (tVar 0) f) (gAttrs K fs)
theorem allSelf_ok : ∀ {fs : List Str} {ts : List Expr}, allSelf c fs ts = true → fs.length = ts.length ∧ (∀ env, (assignEach ts env).any (·.1) = false ∧ (assignEach ts env).length = ts.length) ∧ ∀ X, XOk W c k Ex X → PGs X ts (gAttrs W.K fs)
  | [], [], _ => ⟨rfl, fun env => ⟨rfl, rfl⟩, fun X hX => pgs_nil⟩
  | f :: fs, t :: ts, h => by
    cases t <;> try (exact (Bool.false_ne_true h).elim)
    rename_i o g p
    cases o <;> try (exact (Bool.false_ne_true h).elim)
    rename_i y p0
    obtain ⟨h1, h2⟩ := ba (show (decide (f = g) && (visB c y 0 && allSelf c fs ts)) = true from h)
    have : f = g := of_decide_eq_true h1
    subst this
    obtain ⟨h2, h3⟩ := ba h2
    obtain ⟨e1, e2, e3⟩ := allSelf_ok h3
    refine ⟨by rw [List.length_cons, List.length_cons, e1], fun env => ?_, fun X hX => ?_⟩
    · rw [assignEach_of rfl]
      exact ⟨by rw [List.any_cons, (e2 env).1]; rfl, by rw [List.length_cons, List.length_cons, (e2 env).2]⟩
    · obtain ⟨n1, n2, n3⟩ := visB_of h2 hX
      refine pgs_cons ?_ (e3 X hX) (by rw [assignEach_of rfl]; rfl)
      rw [← hX.K]
      exact pg_attr (pe_var n1 n2 (not_debug n3).1 (not_debug n3).2.1)
  | [], _ :: _, h => (Bool.false_ne_true h).elim
  | _ :: _, [], h => (Bool.false_ne_true h).elim
theorem attrs_step {cn : Nat} {r : Rho} : ∀ {fs : List Str} {vs : List V} {es ds : List DI.D} {j : Nat} {F H : Hp} {σV : L2.St} {σ : St} {Q : L2.St → Hp → Prop}, (∀ i f, fs[i]? = some f → FldS W cn (j + i) f) → Good W R F H r → Grow R F0 H0 F H → StOk W R H0 F H σV σ →
    σ[(0 : Nat)]? = some (.me cn ds) → ds.length = j → Reps W R F vs es → es.length = fs.length →
    (∀ F' H', Good W R F' H' r → Grow R F0 H0 F' H' → StOk W R H0 F' H' σV (σ.set 0 (.me cn (ds ++ es))) → Q σV H') → gAttrs W.K fs vs σV H Q
  | [], vs, es, ds, j, F, H, σV, σ, Q, hf, G, g, S, e, hj, rs, hl, q => by
    cases rs with
    | cons _ _ => simp at hl
    | nil =>
      refine ⟨rfl, q F H G g ?_⟩
      rw [List.append_nil]
      have : σ.set 0 (.me cn ds) = σ := by
        refine List.ext_getElem? fun i => ?_
        rw [List.getElem?_set]
        by_cases z : 0 = i
        · subst z
          have hlt := (List.getElem?_eq_some_iff.mp e).1
          rw [if_pos rfl, if_pos hlt, e]
        · rw [if_neg z]
      rw [this]
      exact S
  | f :: fs, vs, es, ds, j, F, H, σV, σ, Q, hf, G, g, S, e, hj, rs, hl, q => by
    cases rs with
    | nil => simp at hl
    | @cons v vs d es rv rs =>
      have fl : FldS W cn j f := hf 0 f rfl
      obtain ⟨dx, gs, e1, e2, e3, G2, g2, S2⟩ := me_step fl G g S e hj rv
      refine ⟨v, vs, rfl, .ref W.me, e1, W.me, W.ca cn, dx, gs, rfl, e2, fl.cls, fl.no, e3, ?_⟩
      have hlt := (List.getElem?_eq_some_iff.mp e).1
      refine attrs_step (ds := ds ++ [d]) (j := j + 1) (fun i f' hi => by
        have := hf (i + 1) f' (by simpa using hi)
        rwa [show j + (i + 1) = j + 1 + i by omega] at this) G2 g2 S2 (by rw [List.getElem?_set, if_pos rfl, if_pos hlt]) (by rw [List.length_append]; show ds.length + 1 = j + 1; omega) rs (by simpa using hl) fun F' H' G' g' S' => q F' H' G' g' ?_
      rw [List.set_set, List.append_assoc] at S'
      exact S'
theorem rds_fsets (wok : WOk W) {cn j : Nat} {fs : List Str} {e : E} (ok : OkS W k (.fsets cn j fs e)) : RdS W R Ex k c (.fsets cn j fs e) := .of (fun _ => rfl) fun st h => by
  have key : ∃ ts kt pt x pos, st = .Assign [.Tuple ts kt pt] x pos ∧ noTupV x = true ∧ allSelf c fs ts = true ∧ chk e c (.e x) = true := by
    cases st <;> try (exact (Bool.false_ne_true h).elim)
    rename_i tgs x pos
    cases tgs with
    | nil => exact (Bool.false_ne_true h).elim
    | cons t tgs =>
    cases t <;> try (exact (Bool.false_ne_true h).elim)
    rename_i ts kt pt
    cases tgs with
    | cons _ _ => exact (Bool.false_ne_true h).elim
    | nil =>
    obtain ⟨h1, h2⟩ := ba (show (noTupV x && (allSelf c fs ts && chk e c (.e x))) = true from h)
    exact ⟨ts, kt, pt, x, pos, rfl, h1, ba h2⟩
  obtain ⟨ts, kt, pt, x, pos, rfl, h1, h2, h3⟩ := key
  obtain ⟨⟨nb, hk⟩, fl, ok⟩ := ok
  obtain ⟨te, pte, ste⟩ := (rd (R := R) wok e Ex c ok).val x h3
  obtain ⟨a1, a2, a3⟩ := allSelf_ok (W := W) (Ex := Ex) (k := k) h2
  refine ⟨tAsg te (gTup W.K fs.length (gAttrs W.K fs)), fun X hX => ?_, fun F0 H0 F H σV σ ρ D G g S p => ?_⟩
  · rw [← hX.ok.K]
    have pg : PG X (.Tuple ts kt pt) (gTup X.K fs.length (gAttrs X.K fs)) := pg_tup (hX.ok.calm hk) (by rw [hX.ok.K]; exact a3 X hX.ok) (by rw [(a2 _).2, a1]) (findIdx_none (a2 _).1)
    exact ps_asg (pte X hX.ok) pg (by cases x <;> rfl) (by cases x <;> first | rfl | exact (Bool.false_ne_true h1).elim) rfl
  · refine (ste.toC (noB_ne nb)).thenS G g S p fun d r' v F1 H1 G1 g1 S1 p1 q1 => ?_
    have q1 : PostFl W R Ex F0 H0 D (match (generalizing := false) σ[(0 : Nat)]?, d with
      | some (.me c' ds), .tup es => if c' = cn ∧ ds.length = j ∧ es.length = fs.length then .ok (.nx (σ.set 0 (.me cn (ds ++ es)))) r' else .stuck
      | _, _ => .stuck) := q1
    cases es : σ[(0 : Nat)]? with
    | none => rw [es] at q1; exact q1.elim
    | some s =>
      rw [es] at q1
      cases s with
      | me c' ds =>
        cases d with
        | tup gs =>
          have q1 : PostFl W R Ex F0 H0 D (if c' = cn ∧ ds.length = j ∧ gs.length = fs.length then .ok (.nx (σ.set 0 (.me cn (ds ++ gs)))) r' else .stuck) := q1
          by_cases hc : c' = cn ∧ ds.length = j ∧ gs.length = fs.length
          · rw [if_pos hc] at q1
            obtain ⟨rfl, hj, hl⟩ := hc
            have p1 : Rep W R F1 v (.tup gs) := p1
            cases p1 with
            | @tup a xs _ hq l rs =>
              exact ⟨a, xs, rfl, G1.le.sqT hq, by rw [rs.length, hl], attrs_step fl G1 g1 S1 es hj rs hl fun F' H' G' g' S' => q1 σV F' H' G' g' S'⟩
          · rw [if_neg hc] at q1; exact q1.elim
        | _ => exact q1.elim
      | _ => cases d <;> exact q1.elim
theorem nmsB_names : ∀ {own : List (Nat × Bool)} {ts : List Expr}, nmsB c own ts = true → own.length = ts.length ∧ (∀ t ∈ ts, ∃ x p, t = .Name x p) ∧ ∀ (X : Cx), XOk W c k Ex X → ∀ (j i : Nat) (x : Str), (own.map (·.1))[j]? = some i → (ts.map nmOf)[j]? = some x → X.N[i]? = some x ∧ X.env.scope.names.lookup x = some .local
  | [], [], _ => ⟨rfl, (fun t h => by cases h), fun X hX j i x h => by cases j <;> cases h⟩
  | (i, o) :: l, t :: ts, h => by
    cases t <;> try (exact (Bool.false_ne_true h).elim)
    rename_i x p
    obtain ⟨h1, h2⟩ := ba (show (decide (c.N[i]? = some x) && (decide (c.sc.names.lookup x = some .local) && nmsB c l ts)) = true from h)
    obtain ⟨h2, h3⟩ := ba h2
    obtain ⟨e1, e2, e3⟩ := nmsB_names h3
    refine ⟨by rw [List.length_cons, List.length_cons, e1], fun t ht => ?_, fun X hX j i' x' a1 a2 => ?_⟩
    · rcases List.mem_cons.mp ht with rfl | ht
      · exact ⟨x, p, rfl⟩
      · exact e2 t ht
    · cases j with
      | zero =>
        cases a1; cases a2
        exact ⟨by rw [hX.N]; exact of_decide_eq_true h1, by rw [hX.sc]; exact of_decide_eq_true h2⟩
      | succ j => exact e3 X hX j i' x' (by simpa using a1) (by simpa using a2)
  | [], _ :: _, h => (Bool.false_ne_true h).elim
  | _ :: _, [], h => by exact (Bool.false_ne_true h).elim
theorem setTs_val {H2 : Hp} {σV : L2.St} {σ : St} (S : StOk W R H0 F H σV σ) : ∀ {own : List (Nat × Bool)} {vs : List V} {ds : List DI.D} {σ' : St}, allF (own.map (·.2)) → PKm W R H2 F H (own.map (·.2)) vs ds → setTs σ own ds = some σ' →
    vs.length = own.length ∧ StOk W R H0 F H (setV σV (own.map (·.1)) vs) σ' ∧ ∀ (j : Nat) (u : Slot), σ'[j]? = some u → isOwn u = true → σ[j]? = some u ∧ (setV σV (own.map (·.1)) vs)[j]? = σV[j]?
  | [], vs, ds, σ', _, rs, e => by
    cases rs with
    | nil => cases e; exact ⟨rfl, S, fun j u h _ => ⟨h, rfl⟩⟩
  | (i, o) :: l, vs, ds, σ', ho, rs, e => by
    obtain ⟨ho1, ho2⟩ := ho
    have ho1 : o = false := ho1
    subst ho1
    cases rs with
    | @cons _ _ v vs d ds rv rs =>
      obtain ⟨σ1, e1, e2⟩ := Option.bind_eq_some_iff.mp (show ((setTs σ l ds).bind fun σ' => some (σ'.set i (.val d))) = some σ' from e)
      obtain ⟨h1, h2, h3⟩ := setTs_val S ho2 rs e1
      cases e2
      have hs : StOk W R H0 F H ((setV σV (l.map (·.1)) vs).set i (some v)) (σ1.set i (.val d)) := h2.set (s := .val d) ⟨v, rfl, rv⟩ fun j u a _ _ hw => by cases hw
      refine ⟨by rw [List.length_cons, List.length_cons, h1], hs, fun j u hj hu => ?_⟩
      show σ[j]? = some u ∧ ((setV σV (l.map (·.1)) vs).set i (some v))[j]? = σV[j]?
      by_cases hij : i = j
      · subst hij
        rw [List.getElem?_set] at hj
        split at hj
        · split at hj
          · cases hj; cases hu
          · cases hj
        · exact absurd rfl ‹_›
      · rw [List.getElem?_set_ne hij] at hj ⊢
        exact h3 j u hj hu
theorem setTs_ok {H2 F2 : Hp} {σV : L2.St} {σ : St} (S0 : StOk W R H0 F2 H2 σV σ) (gone : ∀ p, H2 p = none → H0 p = none) (S : StOk W R H0 F H σV σ) : ∀ {own : List (Nat × Bool)} {vs : List V} {ds : List DI.D} {σ' : St}, oneT (own.map (·.2)) → PKm W R H2 F H (own.map (·.2)) vs ds → setTs σ own ds = some σ' →
    vs.length = own.length ∧ StOk W R H0 F H (setV σV (own.map (·.1)) vs) σ'
  | [], vs, ds, σ', _, rs, e => by
    cases rs with
    | nil => cases e; exact ⟨rfl, S⟩
  | (i, false) :: l, vs, ds, σ', ho, rs, e => by
    cases rs with
    | @cons _ _ v vs d ds rv rs =>
      obtain ⟨σ1, e1, e2⟩ := Option.bind_eq_some_iff.mp (show ((setTs σ l ds).bind fun σ' => some (σ'.set i (.val d))) = some σ' from e)
      obtain ⟨h1, h2⟩ := setTs_ok S0 gone S (own := l) ho rs e1
      cases e2
      exact ⟨by rw [List.length_cons, List.length_cons, h1], h2.set (s := .val d) ⟨v, rfl, rv⟩ fun j u a _ _ hw => by cases hw⟩
  | (i, true) :: l, vs, ds, σ', ho, rs, e => by
    cases rs with
    | @cons _ _ v vs d ds rv rs =>
      obtain ⟨σ1, e1, e2⟩ := Option.bind_eq_some_iff.mp (show ((setTs σ l ds).bind fun σ' => match true, d with
        | true, .lst xs => some (σ'.set i (.own xs))
        | true, .dic kvs => some (σ'.set i (.ownd kvs))
        | true, _ => none
        | false, d => some (σ'.set i (.val d))) = some σ' from e)
      obtain ⟨h1, h2, h3⟩ := setTs_val S (own := l) ho rs e1
      cases d <;> try (cases e2)
      · obtain ⟨a, xs, rfl, h4, h5, h6, h7, h8, h9⟩ := own_of rv
        refine ⟨by rw [List.length_cons, List.length_cons, h1], h2.set (s := .own _) ⟨a, xs, rfl, h4, h5, h6, h7, h8, gone _ h9⟩ fun j u b hj hu _ ho hb => ?_⟩
        cases hb
        obtain ⟨q1, q2⟩ := h3 j u hu ho
        rw [q2]
        exact apart_new S0 h9 q1 ho
      · obtain ⟨a, xs, rfl, h4, h5, h6, h7, h8, h9⟩ := ownd_of rv
        refine ⟨by rw [List.length_cons, List.length_cons, h1], h2.set (s := .ownd _) ⟨a, xs, rfl, h4, h5, h6, h7, h8, gone _ h9⟩ fun j u b hj hu _ ho hb => ?_⟩
        cases hb
        obtain ⟨q1, q2⟩ := h3 j u hu ho
        rw [q2]
        exact apart_new S0 h9 q1 ho
theorem names_of {X : Cx} {l : Nat} : ∀ {ts : List Expr}, (∀ t ∈ ts, ∃ x p, t = .Name x p) → (∀ (x : Str), x ∈ ts.map nmOf → X.env.scope.names.lookup x = some .local) → ts.all (onLine l) = true →
    (ts.filterMap fun | .Name id pos => if X.env.kindOf id == some .local && pos.line == l then some id else none | _ => none) = ts.map nmOf
  | [], _, _, _ => rfl
  | t :: ts, h1, h2, h3 => by
    obtain ⟨x, p, rfl⟩ := h1 t (List.mem_cons_self ..)
    obtain ⟨a1, a2⟩ := ba (show (onLine l (.Name x p) && ts.all (onLine l)) = true from h3)
    have e1 : X.env.kindOf x = some .local := h2 x (List.mem_cons_self ..)
    have e2 : (p.line == l) = true := a1
    rw [List.filterMap_cons]
    simp only [e1, e2, beq_self_eq_true, Bool.and_self, if_true]
    rw [names_of (fun t ht => h1 t (List.mem_cons_of_mem _ ht)) (fun x hx => h2 x (List.mem_cons_of_mem _ hx)) a2]
    rfl
theorem swap_of {ts xs : List Expr} (h : swapB c ts xs = true) (hn : ∀ t ∈ ts, ∃ x p, t = .Name x p) (hX : XOk W c k Ex X) (hl : ∀ (x : Str), x ∈ ts.map nmOf → X.env.scope.names.lookup x = some .local) {kt k2 : Nat} {pt pt2 : Pos} :
    swappedStores [.Tuple ts kt pt] (.Tuple xs k2 pt2) X.env = pure (some (ts.map nmOf)) ∧ ts.length ≤ 3 := by
  unfold swapB at h
  obtain ⟨h, h8⟩ := ba h
  obtain ⟨h, h7⟩ := ba h
  obtain ⟨h, h6⟩ := ba h
  obtain ⟨h, h5⟩ := ba h
  obtain ⟨h, h4⟩ := ba h
  obtain ⟨h, h3⟩ := ba h
  obtain ⟨h1, h2⟩ := ba h
  have hk : X.env.scope.kind = .function := by
    rw [hX.sc]
    revert h4
    cases c.sc.kind <;> simp
  have hb : X.env.blockKind = .function := by unfold Env.blockKind; rw [hk]; rfl
  have e3 := names_of (X := X) hn hl h5
  have h2' : xs.length = ts.length := by simpa using h2
  refine ⟨?_, ?_⟩
  · unfold swappedStores
    have e6 : (ts.map nmOf).eraseDups.length = ts.length := by simpa using h6
    have e4 : xs.any (fun | .Starred .. => true | _ => false) = false := by
      rw [List.any_eq_false]
      intro x hx
      have := List.all_eq_true.mp h3 x hx
      cases x <;> first | exact Bool.false_ne_true | exact (Bool.false_ne_true this).elim
    simp only [h1, h2', hb]
    generalize hN : List.filterMap _ ts = nm
    have hnm : nm = ts.map nmOf := hN.symm.trans e3
    subst hnm
    rw [if_neg (by simp)]
    have e4' : ¬ (xs.any fun | .Starred .. => true | _ => false) = true := by rw [e4]; exact Bool.false_ne_true
    refine (if_neg e4').trans ?_
    rw [if_neg (by rw [e6, List.length_map]; simp), if_neg (by simpa using h7), if_neg (by simpa using h8)]
  · rcases Bool.or_eq_true_iff.mp h1 with z | z
    · have : ts.length = 2 := by simpa using z
      omega
    · have : ts.length = 3 := by simpa using z
      omega
theorem rds_setT (wok : WOk W) {own : List (Nat × Bool)} {es : E} (ok : OkS W k (.setT own es)) : RdS W R Ex k c (.setT own es) := .of (fun _ => rfl) fun st h => by
  have key : ∃ ts kt pt xs k2 pt2 pos, st = .Assign [.Tuple ts kt pt] (.Tuple xs k2 pt2) pos ∧ swapB c ts xs = true ∧ nmsB c own ts = true ∧ chk es c (.es xs) = true := by
    cases st <;> try (exact (Bool.false_ne_true h).elim)
    rename_i tgs x pos
    cases tgs with
    | nil => exact (Bool.false_ne_true h).elim
    | cons t tgs =>
    cases tgs with
    | cons _ _ => cases t <;> exact (Bool.false_ne_true h).elim
    | nil =>
    cases t <;> try (exact (Bool.false_ne_true h).elim)
    rename_i ts kt pt
    cases x <;> try (exact (Bool.false_ne_true h).elim)
    rename_i xs k2 pt2
    obtain ⟨h1, h2⟩ := ba (show (swapB c ts xs && (nmsB c own ts && chk es c (.es xs))) = true from h)
    exact ⟨ts, kt, pt, xs, k2, pt2, pos, rfl, h1, ba h2⟩
  obtain ⟨ts, kt, pt, xs, k2, pt2, pos, rfl, h1, h2, h3⟩ := key
  obtain ⟨t, pa, _, _, sa⟩ := (rd (R := R) wok es Ex c ok.2.2).arg xs h3
  obtain ⟨n1, n2, n3⟩ := nmsB_names (W := W) (Ex := Ex) (k := k) h2
  refine ⟨tParN (own.map (·.1)) t, fun X hX => ?_, fun F0 H0 F H σV σ ρ D G g S p => ?_⟩
  · have hloc : ∀ x, x ∈ ts.map nmOf → X.env.scope.names.lookup x = some .local := fun x hx => by
      obtain ⟨j, hj⟩ := List.mem_iff_getElem?.mp hx
      have hlt : j < (own.map (·.1)).length := by
        have := (List.getElem?_eq_some_iff.mp hj).1
        rw [List.length_map] at this ⊢
        omega
      exact (n3 X hX.ok j _ x (List.getElem?_eq_getElem hlt) hj).2
    obtain ⟨s1, s2⟩ := swap_of (kt := kt) (k2 := k2) (pt := pt) (pt2 := pt2) h1 n2 hX.ok hloc
    exact ps_parN (hX.ok.calm ok.1.2) (by rw [hX.ok.N]; exact hX.ok.nd) (by rw [List.length_map, List.length_map, n1]) (by rw [List.length_map, n1]; exact s2) (n3 X hX.ok) (pa X hX.ok) s1
  · have p : PostFl W R Ex F0 H0 D ((ev es σ ρ).bind fun l r => match l with
      | .tup ds => .lift ((setTs σ own ds).map .nx) r
      | _ => .stuck) := p
    refine (sa _ ok.2.1).then_ G S (Post := PostFl W R Ex F0 H0 D) PostFl.s (PostFl.x g) p (fun d r' hd => ?_) fun ds r1 vs F1 H1 G1 g1 S1 p1 q1 => ?_
    · cases d <;> first | exact fun z => z | exact absurd ⟨_, rfl⟩ hd
    · have q1 : PostFl W R Ex F0 H0 D (.lift ((setTs σ own ds).map .nx) r1) := q1
      cases e : setTs σ own ds with
      | none => rw [e] at q1; exact q1.elim
      | some σ' =>
        rw [e] at q1
        obtain ⟨l1, S2⟩ := setTs_ok S (fun p q => g.kept.gone q) S1 ok.1.1 p1 e
        exact ⟨by rw [l1, List.length_map], q1 _ F1 H1 G1 (g.trans g1) S2⟩
theorem rds (wok : WOk W) : ∀ (s : S), OkS W k s → RdS W R Ex k c s
  | .nil, _ => rds_nil
  | .cons a r, h => rds_cons (rds wok a h.1) (rds wok r h.2)
  | .skip, _ => rds_skip
  | .set tg e, h => rds_set wok h
  | .setO i e, h => rds_setO wok h
  | .setT own es, h => rds_setT wok h
  | .app i e, h => rds_app wok h
  | .ext i e, h => rds_ext wok h
  | .put i k' e, h => rds_put wok h
  | .rowset i j e, h => rds_rowset wok h
  | .expr e, h => rds_expr wok h
  | .ret e, h => rds_ret wok h
  | .retN, _ => rds_retN
  | .ifs x a b, h => rds_ifs wok h.1 (rds wok a h.2.1) (rds wok b h.2.2)
  | .fors tg it body kills, h => rds_fors wok h.1.2 h.1.1 h.2.1 (rds wok body h.2.2)
  | .nev, _ => rds_nev
  | .brk, _ => rds_brk
  | .cnt, _ => rds_cnt
  | .raise x cn n es, h => rds_raise wok h
  | .aug i e, h => rds_aug wok h
  | .frz _, _ => rds_gh (fun _ => rfl) (fun _ => rfl)
  | .kill _, _ => rds_gh (fun _ => rfl) (fun _ => rfl)
  | .fset _ _ _ _, h => rds_fset wok h
  | .fsets _ _ _ _, h => rds_fsets wok h
end
end DI
set_option Elab.async false
set_option linter.all false
set_option maxRecDepth 100000
/-! Sx: defs and __init__s keep their promises. -/
namespace DI
open PySem PySem.Spec PyProof.Rows
open L2 hiding ixN
section
variable {W : Wd} {R : Addr} {Ex : XK} {b : Bool} {k : Nat} {c : SC} {q : Kd} {F H F' H' F1 H1 F0 H0 : Hp} {v : V} {d : D} {X : Cx} {e : E}
abbrev scOf (N : List Str) (sc : Scope) (qual : Str) (lam : Bool) : SC := ⟨N, sc, fun _ => true, qual, lam, false, false, false⟩
/-- a def that makes lambdas: its code object and the table behind it -/
def LmOk (W : Wd) (qual : Str) (lam : Bool) (cd : Value) : Prop := lam = true → ∃ cc P, cd = .ref cc ∧ LamX.TabB W.base W.mg cc P ∧ (P, qual ++ ".<locals>." ++ "<lambda>") ∈ W.T ∧ ∀ p ∈ W.T, p.1 = P → p.2 = qual ++ ".<locals>." ++ "<lambda>"
/-- the frame of a def -/
theorem XS.def_ {N : List Str} {qual : Str} {sc : Scope} {f : Addr} {cd : Value} {A : Around} {outer : List Env} {s : Shared} {lam : Bool} (hN : N.Nodup) (hlm : LmOk W qual lam cd) (hr : Room k (A.deeper (envOfC qual sc s.heap.objs.size f cd))) :
    XS W (scOf N sc (qual ++ ".<locals>.") lam) k Ex (cxOf (L2.CX W.P W.w) W.P W.w W.K W.mg W.base N qual sc f cd A outer s H Ex) where
  ok := {
    prog := rfl
    w := rfl
    K := rfl
    mg := rfl
    base := rfl
    N := rfl
    sc := rfl
    fn := rfl
    nd := hN
    calm := fun _ => rfl
    room := fun _ => hr
    un0 := by
      have := hr.un
      show (A.deeper (envOfC qual sc s.heap.objs.size f cd)).units + 65 < cLine
      omega
    gd := fun z => nomatch z
    lcx := fun z => nomatch z
    hot := fun z => nomatch z
    tk := takes_of rfl rfl rfl rfl
    lm := fun z => ⟨rfl, hlm z⟩ }
  own := passes_of rfl
theorem start_get {N : List Str} {vs : List V} {i : Nat} : (L2.start N vs)[i]? = if i < vs.length then (vs[i]?).map some else if i < vs.length + (N.length - vs.length) then some none else none := by
  unfold L2.start
  rw [List.getElem?_append, List.length_map]
  by_cases h : i < vs.length
  · rw [if_pos h, if_pos h, List.getElem?_map]
  · rw [if_neg h, if_neg h, List.getElem?_replicate]
    by_cases h2 : i - vs.length < N.length - vs.length
    · rw [if_pos h2, if_pos (by omega)]
    · rw [if_neg h2, if_neg (by omega)]
theorem start_ok {N : List Str} {vs : List V} {ds : List D} (rs : Reps W R F vs ds) (hl : vs.length ≤ N.length) : StOk W R H0 F H (L2.start N vs) (startD N.length ds) := by
  have hd := rs.length
  refine ⟨by unfold L2.start startD; simp [hd], fun i s e => ?_, fun i j s u a hi hj hs hu _ _ => ?_⟩
  · unfold startD at e
    rw [List.getElem?_append, List.length_map] at e
    rw [start_get]
    by_cases h : i < ds.length
    · rw [if_pos h, List.getElem?_map] at e
      obtain ⟨d, e1, e2⟩ := Option.map_eq_some_iff.mp e
      subst e2
      obtain ⟨v, e3, rv⟩ := rs.get e1
      rw [if_pos (by omega), e3]
      exact ⟨v, rfl, rv⟩
    · rw [if_neg h, List.getElem?_replicate] at e
      split at e
      · cases e; trivial
      · cases e
  · exfalso
    unfold startD at hi
    rw [List.getElem?_append, List.length_map] at hi
    by_cases h : i < ds.length
    · rw [if_pos h, List.getElem?_map] at hi
      obtain ⟨d, e1, e2⟩ := Option.map_eq_some_iff.mp hi
      subst e2; cases hs
    · rw [if_neg h, List.getElem?_replicate] at hi
      split at hi
      · cases hi; cases hs
      · cases hi
/-- a def, its code object known -/
theorem okC {P : Program} {w : World} {K : PySem.W.Frag} {mg : Str → Option Value} {base : Heap} {CX : CXT} {N ps : List Str} {k : Nat} {sp : Sp} {x qual : Str} {pa : Arguments} {bd : List Stmt} {sc : Scope} {dvs : List V} {kws : List (Str × V)} {f : Addr} {fd : FuncData} (F : FunD K x qual pa bd sc dvs kws f fd) (S : FnScope N ps sc) (len : ∀ vs H Q E, sp vs H Q E → vs.length = ps.length)
    (hbody : ∀ (A : Around) (outer : List Env) (s : Shared) (H : Hp) (vs : List V) (Q : VK) (E : XK), Room k (A.deeper (envOfC qual sc s.heap.objs.size f fd.code)) → sp vs H Q E →
      ∃ t, PSs (cxOf CX P w K mg base N qual sc f fd.code A outer s H E) bd t ∧ t { nx := fun _ H' => Q .non H', rt := Q } (L2.start N vs) H) : FnOk P w K mg base CX (k + 1) f fd ps sp := by
  obtain ⟨oc, od, dV, kV, doc, pm, an, cdv, ct, osl, rfl, lk, hcd, _⟩ := F.ex
  exact fn_of lk hcd S len hbody
/-- a def of the module computes what its text says -/
theorem fn_ok (wok : WOk W) {x qual : Str} {pa : Arguments} {bd : List Stmt} {sc : Scope} {f : Addr} {fd : FuncData} {N ps : List Str} {b : S} {lam : Bool} (FD : FunD W.K x qual pa bd sc [] [] f fd) {y : Str} (hm : W.mg y = some (.ref f)) (hN : C8.scC N ps sc = true)
    (hb : ∀ (kV doc pm : Value) (an : Option Addr) (cdv ct : Value) (us : List Value), us.length = ps.length → bindArgs (PySem.W.fnOf x qual pa bd sc .none kV doc pm an cdv ct) ⟨us, []⟩ = pure (ps.zip us))
    (hl : ps.length ≤ N.length) (hlm : LmOk W qual lam fd.code) (hc : chkS b (scOf N sc (qual ++ ".<locals>.") lam) (.b bd) = true) (ok : OkS W k b) : FnS W (k + 1) y (runF N.length ps.length b) := by
  have FS := C8.fnScope_by hN
  refine ⟨f, fd, ps, hm, FD.kp, FD.bindsN hb, okC FD FS (fun vs H Q E h => h.1) fun A outer s H vs Q E hr h => ?_, fun ds r z => by unfold runF; rw [if_neg z]⟩
  obtain ⟨hvl, R, F, r, ds, G, rs, p⟩ := h
  obtain ⟨t, pt, st'⟩ := (rds (R := R) (Ex := E) (c := scOf N sc (qual ++ ".<locals>.") lam) wok b ok).blk _ hc
  refine ⟨t, pt _ (XS.def_ FS.nd hlm hr), ?_⟩
  have hdl : ds.length = ps.length := by rw [← rs.length]; exact hvl
  have p : PostE W R E .c F H Q (if ds.length = ps.length then (evS b (startD N.length ds) r).bind fun fl r => (match fl with
    | .nx _ => .ok .non r
    | .ret d => .ok d r
    | _ => .stuck) else .stuck) := p
  rw [if_pos hdl] at p
  refine st' F H F H (L2.start N vs) (startD N.length ds) r _ G (.refl _ _ _) (start_ok rs (by rw [hvl]; exact hl)) ?_
  cases e : evS b (startD N.length ds) r with
  | stuck => rw [e] at p; exact p
  | exc y r' => rw [e] at p; exact p
  | ok fl r' =>
    rw [e] at p
    cases fl with
    | nx σ => exact fun σV F' H' G' g' _ => p .non F' H' G' g' .non
    | ret d => exact fun v F' H' G' g' rv => p v F' H' G' g' rv
    | brk σ => exact p.elim
    | cnt σ => exact p.elim
/-! ### another object in the making -/
def Wd.atx (W : Wd) (x : Addr) (x1 : Value) (x2 : Option Addr) : Wd := { W with me := x, mc := x1, md := x2 }
abbrev Wd.at_ (W : Wd) (x : Addr) : Wd := W.atx x W.mc W.md
mutual
theorem Rep.to {x : Addr} {x1 : Value} {x2 : Option Addr} : ∀ {v : V} {d : D}, Rep W R F v d → Rep (W.atx x x1 x2) R F v d
  | _, _, .non => .non
  | _, _, .bl b => .bl b
  | _, _, .int i => .int i
  | _, _, .str x h => .str x h
  | _, _, .tup h l r => .tup h l (Reps.to r)
  | _, _, .lst h l r => .lst h l (Reps.to r)
  | _, _, .dic h l r => .dic h l (RepKV.to r)
  | _, _, .obj h hk r => .obj h hk (Reps.to r)
  | _, _, .fnv h r => .fnv h (Reps.to r)
  | _, _, .row => .row
  | _, _, .clm h hl => .clm h hl
theorem Reps.to {x : Addr} {x1 : Value} {x2 : Option Addr} : ∀ {vs : List V} {ds : List D}, Reps W R F vs ds → Reps (W.atx x x1 x2) R F vs ds
  | _, _, .nil => .nil
  | _, _, .cons a b => .cons (Rep.to a) (Reps.to b)
theorem RepKV.to {x : Addr} {x1 : Value} {x2 : Option Addr} : ∀ {vs : List (Key × V)} {ds : List (D × D)}, RepKV W R F vs ds → RepKV (W.atx x x1 x2) R F vs ds
  | _, _, .nil => .nil
  | _, _, .cons hk a b => .cons hk (Rep.to a) (RepKV.to b)
end
theorem Rep.back {x : Addr} {x1 : Value} {x2 : Option Addr} (h : Rep (W.atx x x1 x2) R F v d) : Rep W R F v d := Rep.to (W := W.atx x x1 x2) (x := W.me) (x1 := W.mc) (x2 := W.md) h
theorem Reps.back {x : Addr} {x1 : Value} {x2 : Option Addr} {vs : List V} {ds : List D} (h : Reps (W.atx x x1 x2) R F vs ds) : Reps W R F vs ds := Reps.to (W := W.atx x x1 x2) (x := W.me) (x1 := W.mc) (x2 := W.md) h
theorem Good.to {x : Addr} {x1 : Value} {x2 : Option Addr} {r : Rho} (h : Good W R F H r) : Good (W.atx x x1 x2) R F H r := ⟨h.le, h.fR, h.ft, h.row, h.tabs, h.cod⟩
theorem Good.back {x : Addr} {x1 : Value} {x2 : Option Addr} {r : Rho} (h : Good (W.atx x x1 x2) R F H r) : Good W R F H r := ⟨h.le, h.fR, h.ft, h.row, h.tabs, h.cod⟩
theorem RepX.to {x : Addr} {x1 : Value} {x2 : Option Addr} {cls : Value} {dd : Option Addr} {y : Exc} (h : RepX W R F cls dd y) : RepX (W.atx x x1 x2) R F cls dd y := by
  obtain ⟨d, fs, a, b, c, e, l⟩ := h
  exact ⟨d, fs, a, b, c, fun j f hf => let ⟨v, y, e1, e2, e3⟩ := e j f hf; ⟨v, y, e1, e2, e3.to⟩, l⟩
theorem RepX.back {x : Addr} {x1 : Value} {x2 : Option Addr} {cls : Value} {dd : Option Addr} {y : Exc} (h : RepX (W.atx x x1 x2) R F cls dd y) : RepX W R F cls dd y := RepX.to (W := W.atx x x1 x2) (x := W.me) (x1 := W.mc) (x2 := W.md) h
theorem PostE.back {x : Addr} {x1 : Value} {x2 : Option Addr} {Q : VK} {res : Rs D} (h : PostE (W.atx x x1 x2) R Ex .c F H Q res) : PostE W R Ex .c F H Q res := by
  cases res with
  | stuck => exact h
  | ok d r => exact fun v F' H' G g p => h v F' H' G.to g (Rep.to p)
  | exc y r => exact fun cls dd F' H' G g p => h cls dd F' H' G.to g p.to
theorem PostE.to {x : Addr} {x1 : Value} {x2 : Option Addr} {Q : VK} {res : Rs D} (h : PostE W R Ex .c F H Q res) : PostE (W.atx x x1 x2) R Ex .c F H Q res := PostE.back (W := W.atx x x1 x2) (x := W.me) (x1 := W.mc) (x2 := W.md) h
theorem FnS.to {x : Addr} {x1 : Value} {x2 : Option Addr} {y : Str} {g : Fn} (h : FnS W k y g) : FnS (W.atx x x1 x2) k y g := by
  obtain ⟨f, fd, ps, a, b, c, d, e⟩ := h.ex
  exact ⟨f, fd, ps, a, b, c, d.imp fun vs H Q E ⟨l, R, F, r, ds, G, rs, p⟩ => ⟨l, R, F, r, ds, G.back, rs.back, p.back⟩, e⟩
theorem FldS.to {x : Addr} {x1 : Value} {x2 : Option Addr} {cn j : Nat} {f : Str} (h : FldS W cn j f) : FldS (W.atx x x1 x2) cn j f := ⟨h.cls, h.no, h.ix, h.lt, h.few⟩
/-- an __init__ makes what its text says -/
theorem mk_ok (wok : WOk W) {x qual : Str} {pa : Arguments} {bd : List Stmt} {sc : Scope} {f : Addr} {fd : FuncData} {N ps : List Str} {b : S} {cn : Nat} {lam : Bool} (FD : FunD W.K x qual pa bd sc [] [] f fd) {y : Str} (hm : W.mg y = some (.ref (W.ca cn))) (M : Mk W.K (W.ca cn) f) (hN : C8.scC N ps sc = true)
    (hb : ∀ (kV doc pm : Value) (an : Option Addr) (cdv ct : Value) (us : List Value), us.length = ps.length → bindArgs (PySem.W.fnOf x qual pa bd sc .none kV doc pm an cdv ct) ⟨us, []⟩ = pure (ps.zip us))
    (hl : ps.length ≤ N.length) (hlm : LmOk W qual lam fd.code) (hc : chkS b (scOf N sc (qual ++ ".<locals>.") lam) (.b bd) = true) (ok : ∀ z, OkS (W.at_ z) k b) : MkS W (k + 1) y (runI cn (W.cf cn).length N.length ps.length b) := by
  have FS := C8.fnScope_by hN
  refine ⟨cn, f, fd, ps, hm, M, FD.bindsN hb, okC FD FS (fun vs H Q E h => h.1) fun A outer s H vs Q E hr h => ?_, fun ds r z => by unfold runI; rw [if_neg z]⟩
  obtain ⟨hvl, R, F, H1, r, ds, vs', z, dx, rfl, rfl, hz, hdx, hne, G, rs, p⟩ := h
  have wok' : WOk (W.at_ z) := ⟨wok.free, wok.fo⟩
  obtain ⟨t, pt, st'⟩ := (rds (R := R) (Ex := E) (c := scOf N sc (qual ++ ".<locals>.") lam) wok' b (ok z)).blk _ hc
  refine ⟨t, pt _ (XS.def_ (W := W.at_ z) FS.nd hlm hr), ?_⟩
  have hdl : ds.length + 1 = ps.length := by rw [← rs.length]; exact hvl
  have hz2 : upd H1 dx (.own z) z = none := by rw [upd_ne hne.symm]; exact hz
  have G1 : Good (W.at_ z) R F (upd (upd H1 dx (.own z)) z (.ins (W.ca cn) dx [])) r := ((G.new hdx).new hz2).to
  have zR : z ≠ R := G.neR hz
  have zF : F z = none := G.fNone hz
  have g1 : Grow R F H1 F (upd (upd H1 dx (.own z)) z (.ins (W.ca cn) dx [])) := ⟨Le.refl _, (Kept.new hdx).trans (.new hz2), fun b q1 q2 => absurd q1 q2⟩
  refine st' F H1 F _ (L2.start N (.ref z :: vs')) (.me cn [] :: startD (N.length - 1) ds) r _ G1 g1 ?_ ?_
  · have hN0 : 0 < N.length := by omega
    have e1 : L2.start N (.ref z :: vs') = some (.ref z) :: L2.start N.tail vs' := by
      unfold L2.start
      rw [List.map_cons, List.cons_append, List.length_tail, List.length_cons, show N.length - (vs'.length + 1) = N.length - 1 - vs'.length by omega]
    rw [e1]
    have S0 : StOk (W.at_ z) R H1 F (upd (upd H1 dx (.own z)) z (.ins (W.ca cn) dx [])) (L2.start N.tail vs') (startD N.tail.length ds) := start_ok rs.to (by rw [List.length_tail]; have := rs.length; omega)
    rw [List.length_tail] at S0
    refine ⟨by rw [List.length_cons, List.length_cons, S0.len], fun i s e => ?_, fun i j s u a hi hj hs hu ha hb => ?_⟩
    · cases i with
      | zero => cases e; exact ⟨z, dx, [], rfl, upd_same, rfl, .nil, zF, zR, hz, rfl⟩
      | succ i => exact S0.at_ i s e
    · have no : ∀ i s, (startD (N.length - 1) ds)[i]? = some s → isOwn s = false := fun i s e => by
        unfold startD at e
        rw [List.getElem?_append, List.length_map] at e
        by_cases h : i < ds.length
        · rw [if_pos h, List.getElem?_map] at e
          obtain ⟨d, e1, e2⟩ := Option.map_eq_some_iff.mp e
          subst e2; rfl
        · rw [if_neg h, List.getElem?_replicate] at e
          split at e
          · cases e; rfl
          · cases e
      cases i with
      | zero =>
        cases j with
        | zero => rfl
        | succ j => rw [no j u hj] at hu; cases hu
      | succ i => rw [no i s hi] at hs; cases hs
  · have p : PostE W R E .c F H1 (fun v H2 => v = .ref z → Q .non H2) (if ds.length + 1 = ps.length then (evS b (.me cn [] :: startD (N.length - 1) ds) r).bind fun fl r => (match fl with
      | .nx (.me c' fs :: _) => if c' = cn ∧ fs.length = (W.cf cn).length then .ok (.obj cn fs) r else .stuck
      | _ => .stuck) else .stuck) := p
    rw [if_pos hdl] at p
    cases e : evS b (.me cn [] :: startD (N.length - 1) ds) r with
    | stuck => rw [e] at p; exact p
    | exc y r' => rw [e] at p; exact fun cls dd F' H' a b c => p cls dd F' H' a.back b c.back
    | ok fl r' =>
      rw [e] at p
      cases fl with
      | nx σ =>
        cases σ with
        | nil => exact p.elim
        | cons s rest =>
          cases s with
          | me c' fs =>
            have p : PostE W R E .c F H1 (fun v H2 => v = .ref z → Q .non H2) (if c' = cn ∧ fs.length = (W.cf cn).length then .ok (.obj cn fs) r' else .stuck) := p
            by_cases hcn : c' = cn ∧ fs.length = (W.cf cn).length
            · rw [if_pos hcn] at p
              obtain ⟨rfl, hfl⟩ := hcn
              intro σV F' H' G' g' S'
              obtain ⟨a, dx', gs, e1, a1, a2, a3, a4, a5, a6, a7⟩ := S'.at_ 0 _ rfl
              have a7 : a = z := a7
              subst a7
              have le : Le F' (upd F' a (.ins (W.ca c') dx' gs)) := fun b u q => by rw [upd_ne (ne_of_none q a4)]; exact q
              have G'' := G'.back
              refine p (.ref a) (upd F' a (.ins (W.ca c') dx' gs)) H' ⟨fun b u q => ?_, by rw [upd_ne a5.symm]; exact G''.fR, fun b u q => ?_, G''.row.mono le, G''.tabs, fun c q hc => upd_some (G''.cod c q hc)⟩ ⟨g'.le.trans le, g'.kept, fun b q1 q2 => ?_⟩ (.obj upd_same ?_ (a3.back.mono le)) rfl
              · by_cases hb : b = a
                · rw [hb, upd_same] at q; rw [hb]; exact a1.trans q
                · rw [upd_ne hb] at q; exact G''.le _ _ q
              · by_cases hb : b = a
                · rw [hb, upd_same] at q; cases q; exact nt_ins
                · rw [upd_ne hb] at q; exact G''.ft _ _ q
              · by_cases hb : b = a
                · rw [hb]; exact a6
                · rw [upd_ne hb] at q2; exact g'.new b q1 q2
              · have a2 : gs.map (·.1) = (W.cf c').take fs.length := a2
                rw [a2, hfl, List.take_length]
            · rw [if_neg hcn] at p; exact p.elim
          | _ => exact p.elim
      | ret d => exact p.elim
      | brk σ => exact p.elim
      | cnt σ => exact p.elim
end
end DI
set_option Elab.async false
set_option linter.all false
set_option maxRecDepth 100000
/-! Xg: the def that tells an exception, the def that calls what it got. -/
namespace DI
open PySem PySem.Spec PyProof.Rows
open L2 hiding ixN
section
variable {W : Wd} {R : Addr} {Ex : XK} {b : Bool} {k : Nat} {c : SC} {q : Kd} {F H F' H' F1 H1 F0 H0 : Hp} {v : V} {d : D} {X : Cx} {e : E}
/-- an exception told: its name, its fields -/
def spRef (W : Wd) (ns : List (Nat × Str)) (p : Addr × Obj) : Sp := fun vs H Q E => vs = [.ref p.1] ∧ ∃ cls dd, Zc cls dd p.2 ∧ (∃ us, p.2.data = .fields us) ∧ ∃ R F r x n, Good W R F H r ∧ RepX W R F cls dd x ∧ ns.lookup x.c = some n ∧ PostE W R E .c F H Q (.ok (.tup (.str n :: x.ds)) r)
structure RefS (W : Wd) (y : Str) (ns : List (Nat × Str)) : Prop where
  ex : ∃ f fd a, W.mg y = some (.ref f) ∧ PySem.W.keepIn W.K (.ref f) = true ∧ Binds W.K fd [a] [] ∧ FnP W.P W.w W.K W.mg W.base (L2.CX W.P W.w) 1 f fd [a] (spRef W ns)
abbrev hotSC (N : List Str) (sc : Scope) (qual : Str) : SC := ⟨N, sc, fun _ => true, qual, false, true, false, false⟩
theorem ref_ok (wok : WOk W) {x qual a : Str} {pa : Arguments} {bd : List Stmt} {sc : Scope} {f : Addr} {fd : FuncData} {N : List Str} {b : S} {ns : List (Nat × Str)} (FD : FunD W.K x qual pa bd sc [] [] f fd) {y : Str} (hm : W.mg y = some (.ref f)) (hN : C8.scC N [a] sc = true)
    (hb : ∀ (kV doc pm : Value) (an : Option Addr) (cdv ct : Value) (us : List Value), us.length = ([a] : List Str).length → bindArgs (PySem.W.fnOf x qual pa bd sc .none kV doc pm an cdv ct) ⟨us, []⟩ = pure (([a] : List Str).zip us))
    (hl : 1 ≤ N.length) (hc : chkS b (hotSC N sc (qual ++ ".<locals>.")) (.b bd) = true) (ok : ∀ z z1 z2, OkS (W.atx z z1 z2) 0 b)
    (ev : ∀ x r n, ns.lookup x.c = some n → x.ds.length = (W.cf x.c).length → evS b (.exc x :: List.replicate (N.length - 1) .un) r = .ok (.ret (.tup (.str n :: x.ds))) r) : RefS W y ns := by
  have FS := C8.fnScope_by hN
  refine ⟨f, fd, a, hm, FD.kp, FD.bindsN hb, ?_⟩
  obtain ⟨oc, od, dV, kV, doc, pm, an, cdv, ct, osl, rfl, lk, hcd, _⟩ := FD.ex
  refine fn_ofP lk hcd FS (fun p vs H Q E h => by obtain ⟨rfl, _⟩ := h; rfl) fun A outer s H vs Q E p hr h => ?_
  obtain ⟨rfl, cls, dd, hz, hf, R, F, r, x, n, G, rx, hn, pp⟩ := h
  have wok' : WOk (W.atx p.1 cls dd) := ⟨wok.free, wok.fo⟩
  obtain ⟨t, pt, st⟩ := (rds (W := W.atx p.1 cls dd) (R := R) (Ex := E) (k := 0) (c := hotSC N sc (qual ++ ".<locals>.")) wok' b (ok _ _ _)).blk _ hc
  have hX : XS (W.atx p.1 cls dd) (hotSC N sc (qual ++ ".<locals>.")) 0 E (L2H.cxH (L2.CX W.P W.w) W.P W.w W.K W.mg W.base N qual sc f cdv A outer s H E p) := {
    ok := {
      prog := rfl
      w := rfl
      K := rfl
      mg := rfl
      base := rfl
      N := rfl
      sc := rfl
      fn := rfl
      nd := FS.nd
      calm := fun z => absurd z (Nat.lt_irrefl _)
      room := fun z => absurd z (Nat.lt_irrefl _)
      un0 := by
        have := hr.un
        show (A.deeper (envOfC qual sc s.heap.objs.size f cdv)).units + 65 < cLine
        omega
      gd := fun z => nomatch z
      lcx := fun z => nomatch z
      hot := fun _ => ⟨p.2, List.mem_singleton.mpr rfl, hz, hf⟩
      tk := takes_of rfl rfl rfl rfl
      lm := fun z => nomatch z }
    own := passes_of rfl }
  refine ⟨t, pt _ hX, ?_⟩
  have hN0 : N.length = (N.length - 1) + 1 := by omega
  have e1 : L2.start N [.ref p.1] = some (.ref p.1) :: List.replicate (N.length - 1) none := by unfold L2.start; rfl
  rw [e1]
  refine st F H F H _ (.exc x :: List.replicate (N.length - 1) .un) r _ G.to (.refl _ _ _) ?_ ?_
  · refine ⟨by simp, fun i s hi => ?_, fun i j s u w hi hj hs hu _ _ => ?_⟩
    · match i, hi with
      | 0, hi => cases hi; exact ⟨rfl, RepX.to rx⟩
      | i + 1, hi =>
        have hi : (List.replicate (N.length - 1) Slot.un)[i]? = some s := hi
        rw [List.getElem?_replicate] at hi
        split at hi
        · cases hi; trivial
        · cases hi
    · exfalso
      match i, hi with
      | 0, hi => cases hi; cases hs
      | i + 1, hi =>
        have hi : (List.replicate (N.length - 1) Slot.un)[i]? = some s := hi
        rw [List.getElem?_replicate] at hi
        split at hi
        · cases hi; cases hs
        · cases hi
  · obtain ⟨_, _, _, _, _, _, hlen⟩ := id rx
    rw [ev x r n hn hlen]
    exact fun v F' H' G' g rv => pp v F' H' G'.back g (Rep.back rv)
/-! ### try: return (word, call()) / except C as e: return told(e) -/
def toldB (N : List Str) (sc : Scope) (a cn rn : Str) : List Stmt → Bool
  | [.Try [.Return (some (.Tuple [.Constant (.str t) _ _, .Call (.Name y _) [] [] _] _ _)) _] [.ExceptHandler (some (.Name z _)) (some e) [.Return (some (.Call (.Name u _) [.Name v _] [] _)) _] _] [] [] _] =>
    decide (t = ("told" : Str)) && (decide (y = a) && (decide (z = cn) && (decide (u = rn) && (decide (v = e) && (decide (N[1]? = some e) && (decide (sc.names.lookup e = some .local) && (decide (sc.names.lookup cn = some .globalImplicit) && (decide (sc.names.lookup rn = some .globalImplicit) &&
      (!(cn == ("__debug__" : Str)) && (!(rn == ("__debug__" : Str)) && nameOk e))))))))))
  | _ => false
theorem takes_len {W : WX} (tk : Takes X W) : Takes X (fun cls d σ H => σ.length = X.N.length → W cls d σ H) := fun u s' ⟨a, B, sI, pins, σ, H, cls, d, e, I, nb, up, sky, na, os, ag, w⟩ =>
  tk u s' ⟨a, B, sI, pins, σ, H, cls, d, e, I, nb, up, sky, na, os, ag, w I.len⟩
theorem told_ok {x a cn rn : Str} {pa : Arguments} {bd : List Stmt} {sc : Scope} {g CS : Addr} {fd : FuncData} {N : List Str} {ns : List (Nat × Str)} {j : Nat} (FD : FunD W.K x x pa bd sc [] [] g fd) (hm : W.mg x = some (.ref g)) (hN : C8.scC N [a] sc = true) (hN0 : N[0]? = some a) (hva : Vis sc a) (ha : nameOk a = true)
    (hb : ∀ (kV doc pm : Value) (an : Option Addr) (cdv ct : Value) (us : List Value), us.length = ([a] : List Str).length → bindArgs (PySem.W.fnOf x x pa bd sc .none kV doc pm an cdv ct) ⟨us, []⟩ = pure (([a] : List Str).zip us))
    (ht : toldB N sc a cn rn bd = true) (RS : RefS W rn ns) (hCS : W.mg cn = some (.ref CS)) (hex : ∀ c n, ns.lookup c = some n → PySem.W.exmOne W.K (.ref (W.ca c)) (.ref CS) = some true) (hk : k = j + 2) : ToldS W k x ns := by
  have FS := C8.fnScope_by hN
  have hbd := FD.bindsN hb
  obtain ⟨oc, od, dV, kV, doc, pm, an, cdv, ct, osl, rfl, lk, hcd, _⟩ := FD.ex
  refine ⟨j, g, a, pa, bd, sc, dV, kV, doc, pm, cdv, ct, oc, an, od, osl, N, hk, hm, FD.kp, lk, hcd, hbd, FS, hN0, hva, (not_debug ha).1, (not_debug ha).2.1, fun X q h1 h2 h3 h4 h5 hr => ?_⟩
  obtain ⟨fr, fdr, ar, rm, rk, rb, RF⟩ := RS.ex
  unfold toldB at ht
  split at ht
  rotate_left
  · cases ht
  rename_i t j0 p0 y p1 p2 n0 p3 p4 z p5 e u p6 v p7 p8 p9 p10 p11
  obtain ⟨b1, ht1⟩ := ba ht
  obtain ⟨b2, ht2⟩ := ba ht1
  obtain ⟨b3, ht3⟩ := ba ht2
  obtain ⟨b4, ht4⟩ := ba ht3
  obtain ⟨b5, ht5⟩ := ba ht4
  obtain ⟨b6, ht6⟩ := ba ht5
  obtain ⟨b7, ht7⟩ := ba ht6
  obtain ⟨b8, ht8⟩ := ba ht7
  obtain ⟨b9, ht9⟩ := ba ht8
  obtain ⟨b10, ht10⟩ := ba ht9
  obtain ⟨b11, b12⟩ := ba ht10
  have b1 := of_decide_eq_true b1
  have b2 := of_decide_eq_true b2
  have b3 := of_decide_eq_true b3
  have b4 := of_decide_eq_true b4
  have b5 := of_decide_eq_true b5
  have b6 := of_decide_eq_true b6
  have b7 := of_decide_eq_true b7
  have b8 := of_decide_eq_true b8
  have b9 := of_decide_eq_true b9
  have b10 : (cn == ("__debug__" : Str)) = false := by simpa using b10
  have b11 : (rn == ("__debug__" : Str)) = false := by simpa using b11
  subst b1 b2 b3 b4 b5
  intro f c' s H Q tl act hco h
  have RF : FnP X.prog X.w X.K X.mg X.base (L2.CX X.prog X.w) 1 fr fdr [ar] (spRef W ns) := by rw [h1, h2, h3, h4, h5]; exact RF
  have cat : ∀ {a : Addr} {d : Option Addr} {fs : List (Str × V)}, True := trivial
  refine ⟨_, pss_one (ps_try_as (X := (cxOf C8.CX0 X.prog X.w X.K X.mg X.base N x sc g cdv X.A X.stack s H C8.E0).nox) (c := .ref CS) (i := 1) (Wout := fun _ _ _ _ => False)
    (tb := fun W2 D σ H => ∃ Ech : XK, (∀ cls d σ' H', Ech cls d H' → σ'.length = N.length → W2 cls d σ' H') ∧ σ[0]? = some (some (.ref f)) ∧ H c' = some (LamX.CodeO c' q) ∧ tl Ech H (fun v H' => ([V.str "told", v] : List V).length ≤ sizeLine ∧ ∀ p, H' p = none → D.rt (.ref p) (upd H' p (.tup [.str "told", v]))))
    (ts := fun a cls d D σ H => σ[1]? = some (some (.ref a)) ∧ ∃ R F r x n, Good W R F H r ∧ RepX W R F cls d x ∧ ns.lookup x.c = some n ∧ PostE W R (fun _ _ _ => False) .c F H D.rt (.ok (.tup (.str n :: x.ds)) r))
    rfl rfl FS.nd b6 b7 ⟨b8, b10, .inl (by show X.mg _ = _; rw [h4]; exact hCS)⟩ takes0 (fun W2 pn xe tk _ => ?_) (fun a oe cls d pn hz hf => ?_)), ?_⟩
  · refine ⟨fun pins s' σ H' D I h' => ?_⟩
    obtain ⟨Ech, hW, z1, z2, z3⟩ := h'
    have hp := act _ pn xe Ech p1 p2 (takes_len tk) (fun cls d σ' H' z hl => hW cls d σ' H' z hl)
    have hq : PSs ((cxOf C8.CX0 X.prog X.w X.K X.mg X.base N x sc g cdv X.A X.stack s H C8.E0).nox.tr pn xe) [.Return (some (.Tuple [.Constant (.str "told") j0 p0, .Call (.Name y p1) [] [] p2] n0 p3)) p4] _ := pss_one (ps_ret (pe_tup (pa_cons pe_str (pa_cons hp pa_nil (starEach_of rfl)) (starEach_of rfl))))
    exact hq.run pins s' σ H' D I ⟨z1, z2, z3⟩
  · refine ⟨fun pins s' σ H' D I h' => ?_⟩
    obtain ⟨z1, R2, F2, r2, x2, n2, z2, z3, z4, z5⟩ := h'
    have hg : Gl ((cxOf C8.CX0 X.prog X.w X.K X.mg X.base N x sc g cdv X.A X.stack s H C8.E0).nox.suite a ((a, oe) :: pn)) u := b9
    have hv : Vis ((cxOf C8.CX0 X.prog X.w X.K X.mg X.base N x sc g cdv X.A X.stack s H C8.E0).nox.suite a ((a, oe) :: pn)).env.scope v := .inl b7
    have hr2 : L2H.RoomH 1 ((cxOf C8.CX0 X.prog X.w X.K X.mg X.base N x sc g cdv X.A X.stack s H C8.E0).nox.suite a ((a, oe) :: pn)).A := ⟨(hr.deeper (envOfC x sc s.heap.objs.size g cdv)).dp, (hr.deeper (envOfC x sc s.heap.objs.size g cdv)).un⟩
    have hc := pe_callP (X := (cxOf C8.CX0 X.prog X.w X.K X.mg X.base N x sc g cdv X.A X.stack s H C8.E0).nox.suite a ((a, oe) :: pn)) (q := p6) (pos := p8) (p := (a, oe)) RF hr2 (List.mem_cons_self ..) hg (by show X.mg _ = _; rw [h4]; exact rm) (by show PySem.W.keepIn X.K _ = _; rw [h3]; exact rk) (by show Binds X.K _ _ _; rw [h3]; exact rb)
      (fun σ => passAt (W := fun _ _ _ _ => False) takes0 σ) (pa_cons (pe_var (i := 1) (pos := p7) b6 hv (not_debug b12).1 (not_debug b12).2.1) pa_nil (starEach_of rfl)) b11 (starEach_of rfl) (back_of rfl)
    have hq := pss_one (ps_ret (pos := p9) hc)
    exact hq.run pins s' σ H' D I ⟨.ref a, z1, rfl, cls, d, hz, hf, R2, F2, r2, x2, n2, z2, z3, z4, z5⟩
  · refine ⟨fun cls dd H' => ∃ R F r x n, Good W R F H' r ∧ RepX W R F cls dd x ∧ ns.lookup x.c = some n ∧ PostE W R (fun _ _ _ => False) .c F H' Q (.ok (.tup (.str n :: x.ds)) r), fun cls d σ' H' z hl => ?_, by unfold L2.start; rfl, hco, h⟩
    obtain ⟨R2, F2, r2, x2, n2, z2, z3, z4, z5⟩ := z
    obtain ⟨dd, fs, w1, w2, w3⟩ := id z3
    refine ⟨true, by rw [w2]; show PySem.W.exmOne X.K _ _ = _; rw [h3]; exact hex _ _ z4, fun _ a _ => ⟨?_, R2, F2, r2, x2, n2, z2, z3, z4, z5⟩, fun z => nomatch z⟩
    have h1 : 1 < σ'.length := by rw [hl]; exact (List.getElem?_eq_some_iff.mp b6).1
    rw [List.getElem?_set, if_pos rfl, if_pos h1]
end
end DI
set_option Elab.async false
set_option linter.all false
set_option maxRecDepth 100000
/-! Sz: a law's world: constants, defs, tables of code objects, the law itself. -/
namespace DI
open PySem PySem.Spec PyProof.Rows
open L2 hiding ixN
/-! ### constants of the module -/
def vOf : Value → V
  | .none => .non
  | .bool b => .bl b
  | .int i _ => .int i
  | .str x _ => .str x
  | .ref a => .ref a
  | _ => .non
section
variable {W : Wd} {k : Nat}
mutual
theorem repB_ok {W : Wd} : ∀ (n : Nat) (u : Value) (d : D), repB W.K n u d = true → RelV (vOf u) u ∧ ∀ R F, Rep W R F (vOf u) d
  | n, u, .non, h => by
    cases u <;> cases n <;> first | exact ⟨rfl, fun _ _ => .non⟩ | exact (Bool.false_ne_true (by simpa only [repB] using h)).elim
  | n, u, .bl b, h => by
    cases u with
    | bool a =>
      obtain rfl : a = b := of_decide_eq_true (by cases n <;> simpa only [repB] using h)
      exact ⟨rfl, fun _ _ => .bl _⟩
    | _ => cases n <;> exact (Bool.false_ne_true (by simpa only [repB] using h)).elim
  | n, u, .int j, h => by
    cases u with
    | int i t =>
      obtain rfl : i = j := of_decide_eq_true (by cases n <;> simpa only [repB] using h)
      exact ⟨⟨t, rfl⟩, fun _ _ => .int _⟩
    | _ => cases n <;> exact (Bool.false_ne_true (by simpa only [repB] using h)).elim
  | n, u, .str y, h => by
    cases u with
    | str x t =>
      obtain ⟨h1, h2⟩ := ba (show (decide (x = y) && okB y) = true by cases n <;> simpa only [repB] using h)
      obtain rfl : x = y := of_decide_eq_true h1
      exact ⟨⟨t, rfl⟩, fun _ _ => .str _ (okS_of h2)⟩
    | _ => cases n <;> exact (Bool.false_ne_true (by simpa only [repB] using h)).elim
  | n + 1, .ref a, .tup ds, h => by
    simp only [repB] at h
    split at h
    · rename_i dd its m sl hl
      obtain ⟨h1, h2⟩ := ba h
      obtain ⟨r1, r2⟩ := repsB_ok n its.toList ds h2
      refine ⟨rfl, fun R F => .tup (.inr ⟨_, its, m, hl, rfl, rfl, of_decide_eq_true h1, r1⟩) ?_ (r2 R F)⟩
      rw [List.length_map, Array.length_toList]
      exact of_decide_eq_true h1
    · exact (Bool.false_ne_true h).elim
  | 0, u, .tup ds, h => by cases u <;> exact (Bool.false_ne_true (by simpa only [repB] using h)).elim
  | n + 1, .none, .tup ds, h => (Bool.false_ne_true (by simpa only [repB] using h)).elim
  | n + 1, .bool _, .tup ds, h => (Bool.false_ne_true (by simpa only [repB] using h)).elim
  | n + 1, .int _ _, .tup ds, h => (Bool.false_ne_true (by simpa only [repB] using h)).elim
  | n + 1, .str _ _, .tup ds, h => (Bool.false_ne_true (by simpa only [repB] using h)).elim
  | n, u, .lst ds, h => by cases u <;> cases n <;> exact (Bool.false_ne_true (by simpa only [repB] using h)).elim
  | n, u, .dic ds, h => by cases u <;> cases n <;> exact (Bool.false_ne_true (by simpa only [repB] using h)).elim
  | n, u, .obj c ds, h => by cases u <;> cases n <;> exact (Bool.false_ne_true (by simpa only [repB] using h)).elim
  | n, u, .fnv c ds, h => by cases u <;> cases n <;> exact (Bool.false_ne_true (by simpa only [repB] using h)).elim
  | n, u, .row, h => by cases u <;> cases n <;> exact (Bool.false_ne_true (by simpa only [repB] using h)).elim
theorem repsB_ok {W : Wd} : ∀ (n : Nat) (us : List Value) (ds : List D), repsB W.K n us ds = true → Vals (us.map vOf) us ∧ ∀ R F, Reps W R F (us.map vOf) ds
  | n, [], [], _ => ⟨.nil, fun _ _ => .nil⟩
  | n, u :: us, d :: ds, h => by
    obtain ⟨h1, h2⟩ := ba (show (repB W.K n u d && repsB W.K n us ds) = true by simpa only [repsB] using h)
    obtain ⟨a, b⟩ := repB_ok n u d h1
    obtain ⟨c, e⟩ := repsB_ok n us ds h2
    exact ⟨.cons a c, fun R F => .cons (b R F) (e R F)⟩
  | n, [], _ :: _, h => (Bool.false_ne_true (by simpa only [repsB] using h)).elim
  | n, _ :: _, [], h => (Bool.false_ne_true (by simpa only [repsB] using h)).elim
end
theorem cons_ok {W : Wd} {h : Heap} (X : W.K.In h) (G : h.Ns mainGlobals W.mg) {l : List (Str × D)} (c : consB W.K l = true) {x : Str} {d : D} (m : (x, d) ∈ l) : GlobS W x d := by
  have := List.all_eq_true.mp c _ m
  cases e : PySem.W.nsIn W.K mainGlobals x with
  | none => simp only [e] at this; cases this
  | some o =>
    cases o with
    | none => simp only [e] at this; cases this
    | some u =>
      simp only [e] at this
      obtain ⟨a, b⟩ := repB_ok 9 u d this
      exact ⟨vOf u, u, PySem.W.mg_of X G e, a, b⟩
theorem GlobS.to {W : Wd} {z : Addr} {x : Str} {d : D} (h : GlobS W x d) : GlobS (W.at_ z) x d := by
  obtain ⟨v, u, a, b, c⟩ := h
  exact ⟨v, u, a, b, fun R F => (c R F).to⟩
/-- a def that is handed on -/
theorem glob_fn (wok : WOk W) {x : Str} {f : Addr} {n : Nat} (hd : W.dfs n = some x) (hm : W.mg x = some (.ref f)) : GlobS W x (.fnv n []) :=
  ⟨.ref f, .ref f, hm, rfl, fun _ _ => .fnv ((wok.fo _ _ _ _).mpr ⟨rfl, .inr ⟨x, f, hd, hm, rfl⟩⟩) .nil⟩
theorem MkS.mono {j : Nat} {x : Str} {g : Fn} (h : MkS W j x g) (l : j ≤ k) : MkS W k x g := by
  obtain ⟨c, f, fd, ps, a, b, e, d, z⟩ := h.ex
  exact ⟨c, f, fd, ps, a, b, e, d.mono l, z⟩
/-- a def without a promise (recursion's ground) -/
theorem fn_none {x qual : Str} {pa : Arguments} {bd : List Stmt} {sc : Scope} {f : Addr} {fd : FuncData} {ps : List Str} (FD : FunD W.K x qual pa bd sc [] [] f fd) {y : Str} (hm : W.mg y = some (.ref f))
    (hb : ∀ (kV doc pm : Value) (an : Option Addr) (cdv ct : Value) (us : List Value), us.length = ps.length → bindArgs (PySem.W.fnOf x qual pa bd sc .none kV doc pm an cdv ct) ⟨us, []⟩ = pure (ps.zip us)) : FnS W k y (fun _ _ => .stuck) := by
  refine ⟨f, fd, ps, hm, FD.kp, FD.bindsN hb, ⟨fun vs H Q E h => h.1, fun A outer s H args us vs Q E _ _ _ _ h => ?_⟩, fun ds r z => rfl⟩
  obtain ⟨_, R, F, r, ds, G, rs, p⟩ := h
  exact p.elim
/-! ### tables of code objects -/
theorem lm_false {qual : Str} {cd : Value} : LmOk W qual false cd := fun h => nomatch h
theorem lm_true {x qual q' : Str} {pa : Arguments} {bd : List Stmt} {sc : Scope} {f : Addr} {fd : FuncData} {p : He.Defn} (FD : FunD W.K x qual pa bd sc [] [] f fd) (hf : f = He.fAd W.K p) (hT : LamX.TabB W.base W.mg (He.cT W.K p).1 (He.cT W.K p).2)
    (hq : q' = qual ++ ".<locals>." ++ "<lambda>") (hm : ((He.cT W.K p).2, q') ∈ W.T) (hu : ∀ z ∈ W.T, z.1 = (He.cT W.K p).2 → z.2 = q') : LmOk W qual true fd.code := by
  intro _
  obtain ⟨oc, od, dV, kV, doc, pm, an, cdv, ct, osl, rfl, lk, hcd, _⟩ := FD.ex
  obtain ⟨cc, e⟩ := He.codeIn_ref hcd
  have e2 : He.codeOf W.K p = cc := He.codeOf_eq (hf ▸ lk) e
  subst hq
  refine ⟨cc, (He.cT W.K p).2, e, ?_, hm, hu⟩
  have : (He.cT W.K p).1 = cc := e2
  rw [← this]
  exact hT
/-! ### the law -/
/-- row = [script, i, n, c] -/
def rowSt (c : SC) (i n z : Int) : Stmt → Bool
  | .Assign [.Name x _] (.List [.Name y _, .Constant (.int a) _ _, .Constant (.int b) _ _, .Constant (.int d) _ _] _) _ => locB c x 1 && (visB c y 0 && decide (a = i ∧ b = n ∧ d = z))
  | _ => false
def spLaw (K : PySem.W.Frag) (T : List (Addr × Str)) : Sp := fun vs H Q _ => ∃ (a : Addr) (ns : List Int), vs = [.ref a] ∧ SqL K H a (ns.map V.int) ∧ ns.length ≤ 63 ∧ (∀ z ∈ ns, Builtin.Int.intBits z ≤ 1048576) ∧ (∀ p ∈ T, H p.1 = some (.tbl #[])) ∧ ∀ H', Q (.bl true) H'
open Classical in
/-- what is frozen at the start: the script and the code objects -/
noncomputable def startF (a : Addr) (H : Hp) : Hp := fun b => if (b = a ∧ ∃ o, H b = some o ∧ ((∃ xs, o = .lst xs) ∨ ∃ ob xs, o = .frz ob (.lst xs))) ∨ ∃ q, H b = some (LamX.CodeO b q) then H b else none
theorem startF_le (a : Addr) (H : Hp) : Le (startF a H) H := fun b o h => by
  unfold startF at h
  split at h
  · exact h
  · cases h
theorem startF_cod {a : Addr} {H : Hp} {c : Addr} {q : Str} (h : H c = some (LamX.CodeO c q)) : startF a H c ≠ none := by
  unfold startF
  rw [if_pos (.inr ⟨q, h⟩), h]
  simp
theorem startF_ft {a : Addr} {H : Hp} {b : Addr} {o : HO} (h : startF a H b = some o) : ¬ IsTbl o := by
  unfold startF at h
  split at h
  · rename_i z
    rcases z with ⟨_, o', e, z⟩ | ⟨q, e⟩
    · rw [h] at e
      cases e
      rcases z with ⟨xs, rfl⟩ | ⟨ob, xs, rfl⟩
      · exact nt_lst
      · exact nt_frz
    · rw [h] at e
      cases e
      exact nt_ext
  · cases h
theorem startF_sq {K : PySem.W.Frag} {a : Addr} {H : Hp} {xs : List V} (h : SqL K H a xs) : SqL K (startF a H) a xs := by
  rcases h with (h | ⟨o, h⟩) | h
  · refine .inl (.inl ?_)
    unfold startF
    rw [if_pos (.inl ⟨rfl, _, h, .inl ⟨xs, rfl⟩⟩)]
    exact h
  · refine .inl (.inr ⟨o, ?_⟩)
    unfold startF
    rw [if_pos (.inl ⟨rfl, _, h, .inr ⟨o, xs, rfl⟩⟩)]
    exact h
  · exact .inr h
theorem triples_nil : TriplesOk ([] : List Value) := by first | exact .nil | trivial | (unfold TriplesOk; simp)
/-- THE LAW's def keeps its promise -/
theorem law_ok (wok : WOk W) {x qual scr : Str} {pa : Arguments} {st0 : Stmt} {rest : List Stmt} {sc : Scope} {f : Addr} {fd : FuncData} {N : List Str} {b : S} {lam : Bool} {i n z : Int} (FD : FunD W.K x qual pa (st0 :: rest) sc [] [] f fd) (hN : C8.scC N [scr] sc = true) (h2 : 2 ≤ N.length)
    (hlm : LmOk W qual lam fd.code) (h0 : rowSt (scOf N sc (qual ++ ".<locals>.") lam) i n z st0 = true) (hc : chkS b (scOf N sc (qual ++ ".<locals>.") lam) (.b rest) = true) (ok : OkS W k b)
    (plain : ∀ ns : List Int, ns.length ≤ 63 → (∀ z ∈ ns, Builtin.Int.intBits z ≤ 1048576) → ∃ r, evS b (.un :: .val .row :: List.replicate (N.length - 2) .un) ⟨ns, i, n, z⟩ = .ok (.ret (.bl true)) r) : FnOk W.P W.w W.K W.mg W.base (L2.CX W.P W.w) (k + 1) f fd [scr] (spLaw W.K W.T) := by
  have FS := C8.fnScope_by hN
  refine okC FD FS (fun vs H Q E h => ?_) fun A outer s H vs Q E hr h => ?_
  · obtain ⟨a, ns, rfl, _⟩ := h; rfl
  obtain ⟨a, ns, rfl, hs, hl, hb, hT, hQ⟩ := h
  have hX := XS.def_ (W := W) (k := k) (s := s) (outer := outer) (H := H) (Ex := E) FS.nd hlm hr
  generalize hXX : cxOf (L2.CX W.P W.w) W.P W.w W.K W.mg W.base N qual sc f fd.code A outer s H E = X at hX
  refine ⟨tSeq (tAsg (tLst (tCons (tVar 0) (tCons (tC (.int i)) (tCons (tC (.int n)) (tCons (tC (.int z)) tNil))))) (gName 1)) (fun D σ H => ∃ t : TS, PSs X rest t ∧ t D σ H), ?_, ?_⟩
  · refine pss_cons ?_ ⟨fun pins s σ H D I q => ?_⟩
    · unfold rowSt at h0
      split at h0
      · rename_i x1 p1 y1 p2 a1 u1 v1 b1 u2 v2 d1 u3 v3 p3 p4
        obtain ⟨g1, g2⟩ := ba h0
        obtain ⟨g4, g3⟩ := ba g2
        obtain ⟨rfl, rfl, rfl⟩ := of_decide_eq_true g3
        obtain ⟨n1, n2, n3⟩ := visB_of g4 hX.ok
        obtain ⟨m1, m2, m3⟩ := locB_of g1 hX.ok
        exact ps_set (by rw [hX.ok.N]; exact hX.ok.nd) m1 m2 (pe_lst (pa_cons (pe_var n1 n2 (not_debug n3).1 (not_debug n3).2.1) (pa_cons pe_int (pa_cons pe_int (pa_cons pe_int pa_nil (starEach_of rfl)) (starEach_of rfl)) (starEach_of rfl)) (starEach_of rfl))) rfl m3
      · cases h0
    · obtain ⟨t, pt, q⟩ := q
      exact pt.run pins s σ H D I q
  · have hN0 : 0 < N.length := by omega
    have e1 : L2.start N [.ref a] = some (.ref a) :: List.replicate (N.length - 1) none := by
      unfold L2.start; rfl
    refine ⟨.ref a, by rw [e1]; rfl, ?_⟩
    refine ⟨by show 4 ≤ sizeLine; rw [sizeLine_eq]; decide, fun p hp => ?_⟩
    obtain ⟨t, pt, st⟩ := (rds (W := W) (R := p) (Ex := E) (k := k) (c := scOf N sc (qual ++ ".<locals>.") lam) wok b ok).blk rest hc
    refine ⟨t, pt X hX, ?_⟩
    have le := startF_le a H
    have fp : startF a H p = none := by
      cases q : startF a H p with
      | none => rfl
      | some o => rw [le _ _ q] at hp; cases hp
    have le2 : Le H (upd H p (.lst [.ref a, .int i, .int n, .int z])) := fun b o q => by rw [upd_ne (ne_of_none q hp)]; exact q
    have G : Good W p (startF a H) (upd H p (.lst [.ref a, .int i, .int n, .int z])) ⟨ns, i, n, z⟩ := by
      refine ⟨le.trans le2, fp, fun b o q => startF_ft q, ⟨a, upd_same, startF_sq hs⟩, fun q hq => ?_, fun c q hc => ?_⟩
      · refine ⟨#[], le2 _ _ (hT q hq), triples_nil, fun pos cv hcv => ?_⟩
        cases hcv
      · by_cases hb : c = p
        · rw [hb, upd_same] at hc; cases hc
        · rw [upd_ne hb] at hc; exact startF_cod hc
    obtain ⟨r, er⟩ := plain ns hl hb
    refine st (startF a H) (upd H p (.lst [.ref a, .int i, .int n, .int z])) (startF a H) _ _ (.un :: .val .row :: List.replicate (N.length - 2) .un) ⟨ns, i, n, z⟩ _ G (.refl _ _ _) ?_ ?_
    · obtain ⟨m, hm⟩ : ∃ m, N.length = m + 2 := ⟨N.length - 2, by omega⟩
      have e2 : (L2.start N [V.ref a]).set 1 (some (.ref p)) = some (.ref a) :: some (.ref p) :: List.replicate m none := by
        rw [e1, hm]; rfl
      rw [hm, e2]
      refine ⟨by simp, fun j s hj => ?_, fun j l s u w hj hl hs hu _ _ => ?_⟩
      · match j, hj with
        | 0, hj => cases hj; trivial
        | 1, hj => cases hj; exact ⟨.ref p, rfl, .row⟩
        | j + 2, hj =>
          have hj : (List.replicate m Slot.un)[j]? = some s := hj
          rw [List.getElem?_replicate] at hj
          split at hj
          · cases hj; trivial
          · cases hj
      · exfalso
        match j, hj with
        | 0, hj => cases hj; cases hs
        | 1, hj => cases hj; cases hs
        | j + 2, hj =>
          have hj : (List.replicate m Slot.un)[j]? = some s := hj
          rw [List.getElem?_replicate] at hj
          split at hj
          · cases hj; cases hs
          · cases hj
    · rw [er]
      exact fun v F' H' G' g' rv => by
        cases rv
        exact hQ H'
/-! ### the world of a law -/
def foOf (lams : Nat → Option (List Str × E)) (dfs : Nat → Option Str) (mg : Str → Option Value) (n : Nat) (cs : List V) (v : V) (F : Hp) : Prop :=
  cs = [] ∧ ((∃ ps g f, lams n = some (ps, g) ∧ v = .ref f ∧ LamAt ps g f F) ∨ ∃ x f, dfs n = some x ∧ mg x = some (.ref f) ∧ v = .ref f)
theorem foOf_mono {lams : Nat → Option (List Str × E)} {dfs : Nat → Option Str} {mg : Str → Option Value} (n : Nat) (cs : List V) (v : V) (F F' : Hp) (e : Le F F') (h : foOf lams dfs mg n cs v F) : foOf lams dfs mg n cs v F' :=
  ⟨h.1, h.2.imp (fun ⟨ps, g, f, a, b, c', q, h1, h2⟩ => ⟨ps, g, f, a, b, c', q, e _ _ h1, e _ _ h2⟩) id⟩
section
variable {K : PySem.W.Frag} {fa : List He.Fa} {fn : List He.DefD} {h : Heap} {mg : Str → Option Value}
theorem fd_of (c : He.SaysD fa fn K) (e : (fn.all fun d => d.dfl.isEmpty && d.kwd.isEmpty) = true) {i : Nat} (hi : i < fn.length) {d0 : He.DefD} :
    ∃ fd, FunD K (fn.getD i d0).name (fn.getD i d0).qual (fn.getD i d0).params (fn.getD i d0).body (fn.getD i d0).scope [] [] (He.fAd K (fn.getD i d0).at_) fd := by
  have e1 : fn[i]? = some (fn.getD i d0) := by rw [List.getD_eq_getElem?_getD, List.getElem?_eq_getElem hi]; rfl
  obtain ⟨fd, FD⟩ := c.def_ i e1
  have e2 := List.all_eq_true.mp e _ (List.mem_of_getElem? e1)
  obtain ⟨e3, e4⟩ := ba e2
  have e3 : (fn.getD i d0).dvs K = [] := by
    unfold He.DefD.dvs
    rw [List.isEmpty_iff.mp e3]; rfl
  have e4 : (fn.getD i d0).kws K = [] := by
    unfold He.DefD.kws
    rw [List.isEmpty_iff.mp e4]; rfl
  rw [e3, e4] at FD
  exact ⟨fd, FD⟩
theorem hm_of (X : K.In h) (G : h.Ns mainGlobals mg) {d : He.DefD} {x : Str} (ha : d.at_ = (x, none)) (c : (He.Fa.glo x).ok K = true) : mg x = some (.ref (He.fAd K d.at_)) := by
  rw [ha]; exact He.glo_ok X G c
theorem free_all (X : K.In h) (G : h.Ns mainGlobals mg) (c : He.SaysD fa fn K) {l : List Str} (e : (l.all fun x => fa.any fun f => match f with | .free y => decide (y = x) | _ => false) = true) : ∀ x ∈ l, mg x = none := fun x hx => by
  have := List.all_eq_true.mp e x hx
  obtain ⟨f, hf, q⟩ := List.any_eq_true.mp this
  cases f <;> try (exact (Bool.false_ne_true q).elim)
  have q := of_decide_eq_true q
  subst q
  exact He.free_ok X G (He.SaysD.facts c hf)
theorem tab_one {T : List (Addr × Str)} (h : (T.map (·.1)).Nodup) {p : Addr × Str} (hp : p ∈ T) : ∀ z ∈ T, z.1 = p.1 → z.2 = p.2 := by
  induction T with
  | nil => cases hp
  | cons a T ih =>
    rw [List.map_cons, List.nodup_cons] at h
    intro z hz e
    rcases List.mem_cons.mp hp with q1 | q1
    · rcases List.mem_cons.mp hz with q2 | q2
      · rw [q1, q2]
      · exact absurd (List.mem_map.mpr ⟨z, q2, by rw [e, q1]⟩) h.1
    · rcases List.mem_cons.mp hz with q2 | q2
      · exact absurd (List.mem_map.mpr ⟨p, q1, by rw [← e, q2]⟩) h.1
      · exact ih h.2 q1 z q2 e
end
theorem fl_of {W : Wd} {c j : Nat} {f : Str} {a : Addr} {l : List Str} (ha : W.ca c = a) (hl : W.cf c = l) (C : Cls W.K a) (N : NoAttr W.K a f) (e : l.idxOf f = j ∧ j < l.length ∧ l.length < 1000) : FldS W c j f := by
  subst ha
  subst hl
  exact ⟨C, N, e.1, e.2.1, e.2.2⟩
/-- a lambda that is never handed to this def -/
theorem lam_stuck {W : Wd} {k n : Nat} {g : Fn} (h : ∀ ds r, g ds r = .stuck) : LamS W k n g := fun ps e hl => ⟨fun ds r _ => h ds r, fun A outer s H f us vs Q E _ _ _ _ sp => by
  obtain ⟨_, R, F, r, ds, G, rs, p⟩ := sp
  rw [h] at p
  exact p.elim⟩
end
end DI
set_option Elab.async false
set_option linter.all false
set_option maxRecDepth 100000
set_option maxHeartbeats 2000000
/-! Xj: the end of a law whose promise is asked of the caller alone. -/
namespace DI
open PySem PySem.Spec PyProof.Rows LamX
open L2 hiding ixN
/-- a def's promise to the outermost caller -/
def AtCaller (P : Program) (w : World) (K : PySem.W.Frag) (mg : Str → Option Value) (base : Heap) (CX : CXT) (f : Addr) (fd : FuncData) (ps : List Str) (sp : Sp) : Prop :=
  ∀ (s : Shared) (H : Hp) (us : List Value) (vs : List V) (Q : VK) (E : XK), Env0 P w K mg base callerA [] s H → BindsTo s fd ⟨us, []⟩ (ps.zip us) → Vals vs us → sp vs H Q E → codeAny (model P w) callerA (.call (.ref f) ⟨us, []⟩) (CR CX [] P w H s Q E) s
/-- the law called where no repr runs outside: the end with tables, its promise asked of the caller alone -/
theorem law_callG {P : Program} {w : World} {K : PySem.W.Frag} {mg mb : Str → Option Value} {CX : CXT} {fa a : Addr} {cs : List (Addr × Addr)} {fd : FuncData} {x : Str} {sp : Sp} {s₁ : Shared} {vs : List Value} {ns : List Int}
    (KX : K.In s₁.heap) (hns : s₁.heap.Ns mainGlobals mg) (hb : s₁.heap.Ns builtinsNs mb) (hbb : ∀ x : Str, x ≠ "__name__" → mb x = bootBuiltins x) (hlim : s₁.heap.NoLimit) (hg : s₁.gens = #[])
    (hT : ∀ p ∈ cs, s₁.heap.get? p.2 = some { cls := .none, data := .fields #[] }) (nT : ∀ p ∈ cs, K.lookup p.2 = none) (C : ∀ p ∈ cs, PySem.W.CodeHd s₁.heap p.1 p.2)
    (hbm : ∃ (bm : Addr) (ob : Obj), mg "__builtins__" = some (.ref bm) ∧ bm ≠ builtinsNs ∧ s₁.heap.get? bm = some ob ∧ ob.cls = .type "module" ∧ ob.dict = some builtinsNs ∧ ob.data = .plain)
    (ha : s₁.heap.get? a = some { cls := .type "list", data := .seq vs.toArray }) (hi : IntsAre vs ns) (hl : ns.length ≤ sizeLine) 
    (F : ∀ base : Heap, K.In base → base.Ns mainGlobals mg → (∀ p ∈ cs, TabB base mg p.1 p.2) → AtCaller P w K mg base CX fa fd [x] sp) (hbind : ∀ (s : Shared) (u : Value), BindsTo s fd ⟨[u], []⟩ [(x, u)])
    (hsp : ∀ H : Hp, (∀ p ∈ cs, H p.2 = some (.tbl #[])) → SqL K H a (ns.map V.int) → sp [.ref a] H (fun v _ => v = .bl true) fun _ _ _ => False)
    (hCX : ∀ H e s', CX [] H s₁ (fun _ _ _ => False) e s' → False) :
    codeAny (model P w) callerA (.call (.ref fa) ⟨[.ref a], []⟩) (fun r s' => r = .ok (.ret (.bool true)) ∧ OldK s₁.heap s'.heap ∧ s'.os = s₁.os ∧ AllBare s'.gens) s₁ := by
  have rv := vals_ints hi
  have lenV := hi.length
  have isT : ∀ b : Addr, b ∈ cs.map (·.2) → s₁.heap.get? b = some { cls := .none, data := .fields #[] } := fun b hb => by
    obtain ⟨p, hp, e⟩ := List.mem_map.mp hb
    rw [← e]
    exact hT p hp
  have aT : a ∉ cs.map (·.2) := fun z => by
    have q := isT a z
    rw [ha] at q
    have z' : Data.seq vs.toArray _ = Data.fields #[] := congrArg Obj.data (Option.some.inj q)
    cases z'
  have memT : ∀ p ∈ cs, p.2 ∈ cs.map (·.2) := fun p hp => List.mem_map.mpr ⟨p, hp, rfl⟩
  -- from an abstract heap in which nothing but the script and the tables may be tracked
  have core : ∀ H : Hp, (∀ p ∈ cs, H p.2 = some (.tbl #[])) → (∀ b, H b = none ∨ b ∈ cs.map (·.2) ∨ ∃ o xs, H b = some (.frz o (.lst xs))) → SqL K H a (ns.map V.int) → HOk P w H s₁.heap → (∀ b, H b ≠ none → b = a ∨ b ∈ cs.map (·.2)) → (H a ≠ none → K.lookup a = none) →
      codeAny (model P w) callerA (.call (.ref fa) ⟨[.ref a], []⟩) (fun r s' => r = .ok (.ret (.bool true)) ∧ OldK s₁.heap s'.heap ∧ s'.os = s₁.os ∧ AllBare s'.gens) s₁ := by
    intro H hH hO hS hok hA hK
    have base_of : ∀ {b : Addr} {o : Obj}, s₁.heap.get? b = some o → H b = none → (hidT s₁.heap H).get? b = some o := fun e n => hidT_get e n
    have noD : ∀ {b : Addr} {o : Obj}, s₁.heap.get? b = some o → (∀ vs n, o.data ≠ .seq vs n) → o.data ≠ .fields #[] → H b = none := fun {b o} e h1 h2 => by
      cases q : H b with
      | none => rfl
      | some u =>
        rcases hA b (by rw [q]; simp) with e' | e'
        · rw [e', ha] at e
          cases e
          exact (h1 _ _ rfl).elim
        · rw [isT b e'] at e
          cases e
          exact (h2 rfl).elim
    have noA : ∀ {b : Addr} {o : Obj} {es : Array DictEntry} {ep : Nat}, s₁.heap.get? b = some o → o.data = .dict es ep → H b = none := fun {b o es ep} e d => by
      refine noD e (fun vs n z => ?_) fun z => ?_
      · rw [d] at z
        cases z
      · rw [d] at z
        cases z
    have nsK : ∀ {b : Addr} {m : Str → Option Value}, s₁.heap.Ns b m → (hidT s₁.heap H).Ns b m := fun {b m} ⟨o, es, ep, e, d, r⟩ => ⟨o, es, ep, base_of e (noA e d), d, r⟩
    have hKb : K.In (hidT s₁.heap H) := fun b o e => base_of (KX b o e) (by
      cases q : H b with
      | none => rfl
      | some u =>
        rcases hA b (by rw [q]; simp) with e' | e'
        · rw [e'] at e q
          rw [hK (by rw [q]; simp)] at e
          cases e
        · obtain ⟨p, hp, ep⟩ := List.mem_map.mp e'
          rw [← ep, nT p hp] at e
          cases e)
    have hM : L2.Mod K mg (hidT s₁.heap H) := ⟨hKb, nsK hns, ⟨mb, nsK hb, hbb⟩, let ⟨mc, h1, h2⟩ := hlim; ⟨mc, nsK h1, h2⟩⟩
    have TB : ∀ p ∈ cs, TabB (hidT s₁.heap H) mg p.1 p.2 := fun p hp => by
      have hTp := hT p hp
      refine ⟨?_, ?_, fun z => ?_⟩
      · obtain ⟨o, us, file, tf, flags, tg, inF, text, tt, e1, r1, r2, r3, r4, r5, r6, r7, r8, hne⟩ := C p hp
        refine ⟨o, us, file, tf, flags, tg, inF, text, tt, base_of e1 (noD e1 (fun vs n z => ?_) fun z => ?_), r1, r2, r3, r4, r5, r6, r7, r8, hne⟩
        · rw [r2] at z
          cases z
        · rw [r2] at z
          cases z
          simp at r3
      · obtain ⟨bm, ob, b1, b2, b3, b4, b5, b6⟩ := hbm
        have nG : bm ≠ mainGlobals := fun q => by
          obtain ⟨o, es, ep, e, hd, _⟩ := hns
          rw [q, e] at b3
          cases b3
          rw [hd] at b6
          cases b6
        have nP : bm ≠ p.2 := fun q => by
          rw [q, hTp] at b3
          cases b3
          cases b6
        refine ⟨bm, ob, b1, b2, nG, nP, base_of b3 (noD b3 (fun vs n z => ?_) fun z => ?_), b4, b5, b6⟩
        · rw [b6] at z
          cases z
        · rw [b6] at z
          cases z
      · obtain ⟨o, es, ep, e, hd, _⟩ := hns
        rw [z, hTp] at e
        cases e
        cases hd
    have e0 : Env0 P w K mg (hidT s₁.heap H) callerA [] s₁ H := ⟨rfl, hM, fun b o e => of_hidT e, Nat.le_of_eq (hidT_size _ _), trivial, fun b hb => absurd (show b ∈ ([] : List Addr) from hb) (by simp), hok, .of_eq hg⟩
    refine codeAny_mono ((F _ hKb (nsK hns) TB) s₁ H [.ref a] [.ref a] _ _ e0 (hbind s₁ (.ref a)) (.cons rfl .nil) (hsp H hH hS)) fun r s' h => ?_
    cases r with
    | error e => exact (hCX H e s' h).elim
    | ok fl =>
      cases fl with
      | next => exact False.elim h
      | brk => exact False.elim h
      | cont => exact False.elim h
      | ret u =>
        obtain ⟨v, H', os, bare, un, hok', r', q⟩ := h
        have q' : v = .bl true := q
        subst q'
        obtain rfl : u = Value.bool true := r'
        have key : ∀ b o, b ∉ cs.map (·.2) → s₁.heap.get? b = some o → s'.heap.get? b = some o := fun b o nb e => by
          cases q : H b with
          | none => exact un.keep b o e q (by intro z; exact absurd (show b ∈ ([] : List Addr) from z) (by simp)) (by simp)
          | some u =>
            rcases hO b with z | z | ⟨ob, xs, z⟩
            · rw [q] at z; cases z
            · exact absurd z nb
            · have z2 := un.frzs b ob _ z
              obtain ⟨e1, _⟩ := hok b _ z
              obtain ⟨e2, _⟩ := hok' b _ z2
              rw [e] at e1; cases e1
              exact e2
        have grown : ∀ p ∈ cs, ∃ more : Array Value, s'.heap.get? p.2 = some { cls := .none, data := .fields more } := fun p hp => by
          obtain ⟨more, z⟩ := un.tbls p.2 #[] (hH p hp)
          exact ⟨_, hok' p.2 _ z⟩
        refine ⟨rfl, ⟨fun b o e => ?_, fun b o e => ?_⟩, os, bare⟩
        · by_cases hb : b ∈ cs.map (·.2)
          · obtain ⟨p, hp, ep⟩ := List.mem_map.mp hb
            obtain ⟨more, hm⟩ := grown p hp
            rw [← ep] at e ⊢
            rw [hT p hp] at e
            cases e
            exact .inr (.inl ⟨((C p hp).tab (hT p hp)).isCodeTable, rfl, #[], more, rfl, by rw [Array.empty_append]; exact hm⟩)
          · exact .inl (key b o hb e)
        · by_cases hb : b ∈ cs.map (·.2)
          · obtain ⟨p, hp, ep⟩ := List.mem_map.mp hb
            obtain ⟨more, hm⟩ := grown p hp
            rw [← ep]
            exact ⟨_, hm⟩
          · exact ⟨o, key b o hb e⟩
  cases hk : K.lookup a with
  | some o =>
    have e := KX a o hk
    rw [ha] at e
    cases e
    refine core (fun b => if b ∈ cs.map (·.2) then some (.tbl #[]) else none) (fun p hp => if_pos (memT p hp)) (fun b => ?_) (.inr ⟨_, vs.toArray, _, hk, rfl, rfl, rfl, by rw [List.size_toArray, lenV]; exact hl, by simpa using rv⟩) (fun b u z => ?_) (fun b z => ?_) fun z => absurd (show (if a ∈ cs.map (·.2) then some (HO.tbl #[]) else none) = none from if_neg aT) z
    · by_cases hb : b ∈ cs.map (·.2)
      · exact .inr (.inl hb)
      · exact .inl (if_neg hb)
    · by_cases hb : b ∈ cs.map (·.2)
      · have z' := (if_pos hb).symm.trans z
        cases z'
        exact isT b hb
      · have z' := (if_neg hb).symm.trans z
        cases z'
    · by_cases hb : b ∈ cs.map (·.2)
      · exact .inr hb
      · exact absurd (if_neg hb) z
  | none =>
    refine core (fun b => if b = a then some (.frz { cls := .type "list", data := .seq vs.toArray } (.lst (ns.map V.int))) else if b ∈ cs.map (·.2) then some (.tbl #[]) else none) (fun p hp => (if_neg (show ¬ p.2 = a from fun z => aT (by rw [← z]; exact memT p hp))).trans (if_pos (memT p hp))) (fun b => ?_)
      (.inl (.inr ⟨{ cls := .type "list", data := .seq vs.toArray }, if_pos rfl⟩)) (fun b u z => ?_) (fun b z => ?_) fun _ => hk
    · by_cases hb : b = a
      · exact .inr (.inr ⟨_, _, if_pos hb⟩)
      · by_cases hb2 : b ∈ cs.map (·.2)
        · exact .inr (.inl hb2)
        · exact .inl ((if_neg hb).trans (if_neg hb2))
    · by_cases hb : b = a
      · have z' := (if_pos hb).symm.trans z
        cases z'
        rw [hb]
        exact ⟨ha, by rw [List.length_map]; exact hl, vs, _, rv, ha⟩
      · have z1 := (if_neg hb).symm.trans z
        by_cases hb2 : b ∈ cs.map (·.2)
        · have z' := (if_pos hb2).symm.trans z1
          cases z'
          exact isT b hb2
        · have z' := (if_neg hb2).symm.trans z1
          cases z'
    · by_cases hb : b = a
      · exact .inl hb
      · by_cases hb2 : b ∈ cs.map (·.2)
        · exact .inr hb2
        · exact absurd ((if_neg hb).trans (if_neg hb2)) z
/-- what is known of the law's promise at the head's heap h -/
def LawAtG (l : PySem.W.OpenLaw) (w : World) (K : PySem.W.Frag) (CX : CXT) (n : Nat) (x : Str) (mg : Str → Option Value) (fa : Addr) (h : Heap) : Prop :=
  ∃ (fd : FuncData) (cs : List (Addr × Addr)) (sp : Sp), (∀ p ∈ cs, h.get? p.2 = some { cls := .none, data := .fields #[] }) ∧ (∀ p ∈ cs, K.lookup p.2 = none) ∧ (∀ p ∈ cs, PySem.W.CodeHd h p.1 p.2) ∧ (∀ (s : Shared) (u : Value), BindsTo s fd ⟨[u], []⟩ [(x, u)]) ∧
    (∀ (H : Hp) (a : Addr) (ns : List Int), ns.length ≤ n → (∀ z ∈ ns, Builtin.Int.intBits z ≤ 1048576) → (∀ p ∈ cs, H p.2 = some (.tbl #[])) → SqL K H a (ns.map V.int) → sp [.ref a] H (fun v _ => v = .bl true) fun _ _ _ => False) ∧
    ∀ base : Heap, K.In base → base.Ns mainGlobals mg → (∀ p ∈ cs, TabB base mg p.1 p.2) → AtCaller l.prog w K mg base CX fa fd [x] sp
theorem walk_ofG {l : PySem.W.OpenLaw} {n : Nat} {q : Program} {loose : List Str} {XP : (Str → Option Value) → Heap → Prop} {YP : World → Heap → Prop} {d : DefRec} {CX : World → CXT} {x : Str}
    (hn : l.most = some n) (hn2 : n ≤ sizeLine) (hdf : d.params.defaults = [])
    (F : ∀ (w : World) (mg : Str → Option Value) (fa : Addr) (h : Heap), YP w h → h.Ns mainGlobals mg → mg d.name = some (.ref fa) → ∃ K : PySem.W.Frag, K.In h ∧ LawAtG l w K (CX w) n x mg fa h)
    (hCX : ∀ (w : World) (H : Hp) (s : Shared) (e : Value) (s' : Shared), CX w [] H s (fun _ _ _ => False) e s' → False) :
    PySem.W.WalkO q loose XP YP l.row.toRowW d [] (fun f vs => PySem.call f vs) := by
  refine Att.attach_callB hn hdf fun w s₀ s₁ mg mb fa o pm cd doc a vs ns G Y ho hd hcd hmg hobj hints hlen hbits hg => ?_
  obtain ⟨K, KX, fd, cs, sp, hT, nT, C, hb, hsp, hF⟩ := F w mg fa _ Y G.T.g hmg
  exact law_callG KX G.T.g G.T.b G.T.builtins G.T.nolimit hg hT nT C G.T.bmain hobj hints (Nat.le_trans hlen hn2) hF hb (fun H hH hS => hsp H a ns hlen hbits hH hS) fun H e s' => hCX w H s₁ e s'
end DI
set_option Elab.async false
set_option linter.all false
set_option maxRecDepth 100000
/-! Xi: defs and the law where no repr runs outside; classes of exceptions, asked. -/
namespace DI
open PySem PySem.Spec PyProof.Rows
open L2 hiding ixN
section
variable {W : Wd} {R : Addr} {Ex : XK} {b : Bool} {k : Nat} {c : SC} {q : Kd} {F H F' H' F1 H1 F0 H0 : Hp} {v : V} {d : D} {X : Cx} {e : E}
abbrev scTop (N : List Str) (sc : Scope) (qual : Str) (lam : Bool) : SC := ⟨N, sc, fun _ => true, qual, lam, false, true, false⟩
theorem XS.defG {N : List Str} {qual : Str} {sc : Scope} {f : Addr} {cd : Value} {A : Around} {outer : List Env} {s : Shared} {lam : Bool} (hN : N.Nodup) (hlm : LmOk W qual lam cd) (hr : Room k (A.deeper (envOfC qual sc s.heap.objs.size f cd))) (hg : A.guards = some []) :
    XS W (scTop N sc (qual ++ ".<locals>.") lam) k Ex (cxOf (L2.CX W.P W.w) W.P W.w W.K W.mg W.base N qual sc f cd A outer s H Ex) where
  ok := {
    prog := rfl
    w := rfl
    K := rfl
    mg := rfl
    base := rfl
    N := rfl
    sc := rfl
    fn := rfl
    nd := hN
    calm := fun _ => rfl
    room := fun _ => hr
    un0 := by
      have := hr.un
      show (A.deeper (envOfC qual sc s.heap.objs.size f cd)).units + 65 < cLine
      omega
    gd := fun _ => hg
    lcx := fun z => nomatch z
    hot := fun z => nomatch z
    tk := takes_of rfl rfl rfl rfl
    lm := fun z => ⟨rfl, hlm z⟩ }
  own := passes_of rfl
theorem fn_okG (wok : WOk W) {x qual : Str} {pa : Arguments} {bd : List Stmt} {sc : Scope} {f : Addr} {fd : FuncData} {N ps : List Str} {b : S} {lam : Bool} (FD : FunD W.K x qual pa bd sc [] [] f fd) {y : Str} (hm : W.mg y = some (.ref f)) (hN : C8.scC N ps sc = true)
    (hb : ∀ (kV doc pm : Value) (an : Option Addr) (cdv ct : Value) (us : List Value), us.length = ps.length → bindArgs (PySem.W.fnOf x qual pa bd sc .none kV doc pm an cdv ct) ⟨us, []⟩ = pure (ps.zip us))
    (hl : ps.length ≤ N.length) (hlm : LmOk W qual lam fd.code) (hc : chkS b (scTop N sc (qual ++ ".<locals>.") lam) (.b bd) = true) (ok : OkS W k b) : FnG W (k + 1) y (runF N.length ps.length b) := by
  have FS := C8.fnScope_by hN
  have hbd := FD.bindsN hb
  have hkp := FD.kp
  obtain ⟨oc, od, dV, kV, doc, pm, an, cdv, ct, osl, rfl, lk, hcd, _⟩ := FD.ex
  refine ⟨f, _, ps, hm, hkp, hbd, fun ds r z => by unfold runF; rw [if_neg z], fun A outer s H us vs Q E hg hr e0 hbt rv h => ?_⟩
  refine LamX.run_ofS (N := N) (ps := ps) lk hcd FS hr e0 hbt rv h.1 fun hr => ?_
  obtain ⟨hvl, R, F, r, ds, G, rs, p⟩ := h
  obtain ⟨t, pt, st'⟩ := (rds (R := R) (Ex := E) (c := scTop N sc (qual ++ ".<locals>.") lam) wok b ok).blk _ hc
  refine ⟨t, pt _ (XS.defG FS.nd hlm hr hg), ?_⟩
  have hdl : ds.length = ps.length := by rw [← rs.length]; exact hvl
  have p : PostE W R E .c F H Q (if ds.length = ps.length then (evS b (startD N.length ds) r).bind fun fl r => (match fl with
    | .nx _ => .ok .non r
    | .ret d => .ok d r
    | _ => .stuck) else .stuck) := p
  rw [if_pos hdl] at p
  refine st' F H F H (L2.start N vs) (startD N.length ds) r _ G (.refl _ _ _) (start_ok rs (by rw [hvl]; exact hl)) ?_
  cases e : evS b (startD N.length ds) r with
  | stuck => rw [e] at p; exact p
  | exc y r' => rw [e] at p; exact p
  | ok fl r' =>
    rw [e] at p
    cases fl with
    | nx σ => exact fun σV F' H' G' g' _ => p .non F' H' G' g' .non
    | ret d => exact fun v F' H' G' g' rv => p v F' H' G' g' rv
    | brk σ => exact p.elim
    | cnt σ => exact p.elim
abbrev scLaw (N : List Str) (sc : Scope) (qual : Str) (lam : Bool) : SC := ⟨N, sc, fun _ => true, qual, lam, false, true, true⟩
def lcOf (c : SC) (cells : List (Str × Addr)) : LcT := ⟨LcAt c cells, fun _ _ _ _ _ _ _ e h => ⟨e _ _ h.1, e _ _ h.2.1, e _ _ h.2.2⟩⟩
theorem XS.lawG {N : List Str} {qual : Str} {sc : Scope} {f : Addr} {cd : Value} {A : Around} {outer : List Env} {s : Shared} {lam : Bool} (hN : N.Nodup) (hlm : LmOk W qual lam cd) (hr : Room k (A.deeper (envOfC qual sc s.heap.objs.size f cd))) (hg : A.guards = some [])
    (hl : W.lc = lcOf (scLaw N sc (qual ++ ".<locals>.") lam) (cxOf (L2.CX W.P W.w) W.P W.w W.K W.mg W.base N qual sc f cd A outer s H Ex).env.cells) :
    XS W (scLaw N sc (qual ++ ".<locals>.") lam) k Ex (cxOf (L2.CX W.P W.w) W.P W.w W.K W.mg W.base N qual sc f cd A outer s H Ex) where
  ok := {
    prog := rfl
    w := rfl
    K := rfl
    mg := rfl
    base := rfl
    N := rfl
    sc := rfl
    fn := rfl
    nd := hN
    calm := fun _ => rfl
    room := fun _ => hr
    un0 := by
      have := hr.un
      show (A.deeper (envOfC qual sc s.heap.objs.size f cd)).units + 65 < cLine
      omega
    gd := fun _ => hg
    lcx := fun _ b f c' t i F => by rw [hl]; exact Iff.rfl
    hot := fun z => nomatch z
    tk := takes_of rfl rfl rfl rfl
    lm := fun z => ⟨rfl, hlm z⟩ }
  own := passes_of rfl
theorem fo_no {lams : Nat → Option (List Str × E)} {dfs : Nat → Option Str} {mg : Str → Option Value} {n : Nat} (h1 : lams n = none) (h2 : dfs n = none) (cs : List V) (v : V) (F : Hp) : ¬ foOf lams dfs mg n cs v F := by
  rintro ⟨_, ⟨_, _, _, e, _⟩ | ⟨_, _, e, _⟩⟩
  · rw [h1] at e; cases e
  · rw [h2] at e; cases e
/-- THE LAW's def keeps its promise to the outermost caller -/
theorem law_okG (wok : WOk W) {x qual scr : Str} {pa : Arguments} {st0 : Stmt} {rest : List Stmt} {sc : Scope} {f : Addr} {fd : FuncData} {N : List Str} {b : S} {lam : Bool} {i n z : Int} (FD : FunD W.K x qual pa (st0 :: rest) sc [] [] f fd) (hN : C8.scC N [scr] sc = true) (h2 : 2 ≤ N.length)
    (hlm : LmOk W qual lam fd.code) (h0 : rowSt (scLaw N sc (qual ++ ".<locals>.") lam) i n z st0 = true) (hc : chkS b (scLaw N sc (qual ++ ".<locals>.") lam) (.b rest) = true) (ok : ∀ lc, OkS (W.setLc lc) k b)
    (plain : ∀ ns : List Int, ns.length ≤ 63 → (∀ z ∈ ns, Builtin.Int.intBits z ≤ 1048576) → ∃ r, evS b (.un :: .val .row :: List.replicate (N.length - 2) .un) ⟨ns, i, n, z⟩ = .ok (.ret (.bl true)) r)  (hrc : Room (k + 1) callerA) : AtCaller W.P W.w W.K W.mg W.base (L2.CX W.P W.w) f fd [scr] (spLaw W.K W.T) := by
  have FS := C8.fnScope_by hN
  intro s H us vs Q E e0 hbd rv h
  obtain ⟨oc, od, dV, kV, doc, pm, an, cdv, ct, osl, rfl, lk, hcd, _⟩ := FD.ex
  have hvl : vs.length = ([scr] : List Str).length := by
    obtain ⟨a, ns, rfl, _⟩ := h
    rfl
  refine LamX.run_ofS (N := N) (ps := [scr]) lk hcd FS hrc e0 hbd rv hvl fun hr => ?_
  obtain ⟨a, ns, rfl, hs, hl, hb, hT, hQ⟩ := h
  let W' : Wd := W.setLc (lcOf (scLaw N sc (qual ++ ".<locals>.") lam) (cxOf (L2.CX W.P W.w) W.P W.w W.K W.mg W.base N qual sc f cdv callerA [] s H E).env.cells)
  have wok' : WOk W' := ⟨wok.1, wok.2⟩
  have ok' : OkS W' k b := ok _
  have hX : XS W' (scLaw N sc (qual ++ ".<locals>.") lam) k E (cxOf (L2.CX W.P W.w) W.P W.w W.K W.mg W.base N qual sc f cdv callerA [] s H E) := XS.lawG (W := W') (k := k) (s := s) (outer := []) (H := H) (Ex := E) FS.nd hlm hr rfl rfl
  generalize hXX : cxOf (L2.CX W.P W.w) W.P W.w W.K W.mg W.base N qual sc f cdv callerA [] s H E = X at hX ⊢
  refine ⟨tSeq (tAsg (tLst (tCons (tVar 0) (tCons (tC (.int i)) (tCons (tC (.int n)) (tCons (tC (.int z)) tNil))))) (gName 1)) (fun D σ H => ∃ t : TS, PSs X rest t ∧ t D σ H), ?_, ?_⟩
  · refine pss_cons ?_ ⟨fun pins s σ H D I q => ?_⟩
    · unfold rowSt at h0
      split at h0
      · rename_i x1 p1 y1 p2 a1 u1 v1 b1 u2 v2 d1 u3 v3 p3 p4
        obtain ⟨g1, g2⟩ := ba h0
        obtain ⟨g4, g3⟩ := ba g2
        obtain ⟨rfl, rfl, rfl⟩ := of_decide_eq_true g3
        obtain ⟨n1, n2, n3⟩ := visB_of g4 hX.ok
        obtain ⟨m1, m2, m3⟩ := locB_of g1 hX.ok
        exact ps_set (by rw [hX.ok.N]; exact hX.ok.nd) m1 m2 (pe_lst (pa_cons (pe_var n1 n2 (not_debug n3).1 (not_debug n3).2.1) (pa_cons pe_int (pa_cons pe_int (pa_cons pe_int pa_nil (starEach_of rfl)) (starEach_of rfl)) (starEach_of rfl)) (starEach_of rfl))) rfl m3
      · cases h0
    · obtain ⟨t, pt, q⟩ := q
      exact pt.run pins s σ H D I q
  · have hN0 : 0 < N.length := by omega
    have e1 : L2.start N [.ref a] = some (.ref a) :: List.replicate (N.length - 1) none := by
      unfold L2.start; rfl
    refine ⟨.ref a, by rw [e1]; rfl, ?_⟩
    refine ⟨by show 4 ≤ sizeLine; rw [sizeLine_eq]; decide, fun p hp => ?_⟩
    obtain ⟨t, pt, st⟩ := (rds (W := W') (R := p) (Ex := E) (k := k) (c := scLaw N sc (qual ++ ".<locals>.") lam) wok' b ok').blk rest hc
    refine ⟨t, pt X hX, ?_⟩
    have le := startF_le a H
    have fp : startF a H p = none := by
      cases q : startF a H p with
      | none => rfl
      | some o => rw [le _ _ q] at hp; cases hp
    have le2 : Le H (upd H p (.lst [.ref a, .int i, .int n, .int z])) := fun b o q => by rw [upd_ne (ne_of_none q hp)]; exact q
    have G : Good W' p (startF a H) (upd H p (.lst [.ref a, .int i, .int n, .int z])) ⟨ns, i, n, z⟩ := by
      refine ⟨le.trans le2, fp, fun b o q => startF_ft q, ⟨a, upd_same, startF_sq hs⟩, fun q hq => ?_, fun c q hc => ?_⟩
      · refine ⟨#[], le2 _ _ (hT q hq), triples_nil, fun pos cv hcv => ?_⟩
        cases hcv
      · by_cases hb : c = p
        · rw [hb, upd_same] at hc; cases hc
        · rw [upd_ne hb] at hc; exact startF_cod hc
    obtain ⟨r, er⟩ := plain ns hl hb
    refine st (startF a H) (upd H p (.lst [.ref a, .int i, .int n, .int z])) (startF a H) _ _ (.un :: .val .row :: List.replicate (N.length - 2) .un) ⟨ns, i, n, z⟩ _ G (.refl _ _ _) ?_ ?_
    · obtain ⟨m, hm⟩ : ∃ m, N.length = m + 2 := ⟨N.length - 2, by omega⟩
      have e2 : (L2.start N [V.ref a]).set 1 (some (.ref p)) = some (.ref a) :: some (.ref p) :: List.replicate m none := by
        rw [e1, hm]; rfl
      rw [hm, e2]
      refine ⟨by simp, fun j s hj => ?_, fun j l s u w hj hl hs hu _ _ => ?_⟩
      · match j, hj with
        | 0, hj => cases hj; trivial
        | 1, hj => cases hj; exact ⟨.ref p, rfl, .row⟩
        | j + 2, hj =>
          have hj : (List.replicate m Slot.un)[j]? = some s := hj
          rw [List.getElem?_replicate] at hj
          split at hj
          · cases hj; trivial
          · cases hj
      · exfalso
        match j, hj with
        | 0, hj => cases hj; cases hs
        | 1, hj => cases hj; cases hs
        | j + 2, hj =>
          have hj : (List.replicate m Slot.un)[j]? = some s := hj
          rw [List.getElem?_replicate] at hj
          split at hj
          · cases hj; cases hs
          · cases hj
    · rw [er]
      exact fun v F' H' G' g' rv => by
        cases rv
        exact hQ H'
theorem memN {α : Type} {a : Nat} {b : α} : ∀ {l : List (Nat × α)}, l.lookup a = some b → (a, b) ∈ l
  | [], h => by cases h
  | (x, y) :: r, h => by
    by_cases e : a = x
    · subst e
      simp [List.lookup] at h
      rw [h]; exact List.mem_cons_self ..
    · have e2 : (a == x) = false := by simpa using e
      exact List.mem_cons_of_mem _ (memN (by simpa [List.lookup, e2] using h))
theorem FnG.mono {j : Nat} {x : Str} {g : Fn} (h : FnG W j x g) (l : j ≤ k) : FnG W k x g := by
  obtain ⟨f, fd, ps, a, b, c, d, e⟩ := h.ex
  exact ⟨f, fd, ps, a, b, c, d, fun A outer s H us vs Q E hg hr => e A outer s H us vs Q E hg (hr.mono l)⟩
theorem exc_ok {x : Str} {cn : Nat} (hm : W.mg x = some (.ref (W.ca cn))) (h : supIn W.P W.K (W.ca cn) (W.cf cn) = true) : ExcS W x cn := by
  obtain ⟨fI, cda, cc, qual, pa, bd, sc, S, T, hb⟩ := supIn_ok h
  exact ⟨fI, cda, cc, qual, pa, bd, sc, hm, S, T, hb⟩
theorem iso_ok {cn : Nat} {y : Str} (hm : W.mg y = some (.ref (W.ca cn))) (cl : Cls W.K (W.ca cn)) (h : isoB W.K (W.ca cn) = true) : IsoS W cn y := by
  obtain ⟨h1, h⟩ := bk h
  obtain ⟨h2, h⟩ := bk h
  obtain ⟨h3, h4⟩ := bk h
  exact ⟨hm, cl, of_decide_eq_true h1, of_decide_eq_true h2, of_decide_eq_true h3, of_decide_eq_true h4⟩
theorem is_ok {ks cs : List Nat} {y : Str} {a : Addr} (hm : W.mg y = some (.ref a)) (h : ∀ c ∈ ks, ∃ fs, hexB W.K (W.ca c) fs = true ∧ PySem.W.kitOne W.K (.ref (W.ca c)) (.ref a) = some (cs.contains c)) : IsS W ks cs y :=
  ⟨.ref a, .inl hm, ⟨.ref a, rfl, fun u r => r⟩, fun c hc => let ⟨fs, h1, h2⟩ := h c hc; ⟨(hexB_ok h1).1, h2⟩⟩
theorem isV_ok {ks cs : List Nat} (hm : W.mg "ValueError" = none) (h : ∀ c ∈ ks, ∃ fs, hexB W.K (W.ca c) fs = true ∧ PySem.W.kitOne W.K (.ref (W.ca c)) (.type "ValueError") = some (cs.contains c)) : IsS W ks cs "ValueError" :=
  ⟨.type "ValueError", .inr ⟨hm, by with_unfolding_all rfl, by decide⟩, ⟨.ty "ValueError", rfl, fun u r => r⟩, fun c hc => let ⟨fs, h1, h2⟩ := h c hc; ⟨(hexB_ok h1).1, h2⟩⟩
theorem xf_ok {js : List (Nat × Nat)} {f : Str} (h : ∀ p ∈ js, (W.cf p.1)[p.2]? = some f ∧ hexB W.K (W.ca p.1) (W.cf p.1) = true) : XfS W js f := fun c j e => by
  obtain ⟨h1, h2⟩ := h (c, j) (memN e)
  obtain ⟨_, h3, h4⟩ := hexB_ok h2
  exact ⟨h1, h3, h4 f (List.mem_of_getElem? h1)⟩
end
end DI
set_option Elab.async false
set_option linter.all false
set_option maxRecDepth 100000
set_option maxHeartbeats 0
namespace LW
open PySem DI
def dd0 : He.DefD := ⟨("", none), "", "", ⟨[], [], none, [], [], none, []⟩, [], PRG.main.scope, [], []⟩
abbrev dd (i : Nat) : He.DefD := fn.getD i dd0
theorem dfl0 : (fn.all fun d => d.dfl.isEmpty && d.kwd.isEmpty) = true := by kernel_rfl
theorem fn_len : fn.length = 20 := by kernel_rfl
theorem k__law_taken : chkS b__law_taken (scOf (["row", "amount", "cell", "found"] : List Str) (dd 11).scope ((dd 11).qual ++ ".<locals>.") false) (.b (dd 11).body) = true := by kernel_rfl
theorem n__law_taken : C8.scC (["row", "amount", "cell", "found"] : List Str) (["row", "amount"] : List Str) (dd 11).scope = true := by kernel_rfl
theorem p__law_taken : ∀ (kV doc pm : Value) (an : Option Addr) (cdv ct : Value) (us : List Value), us.length = (["row", "amount"] : List Str).length → bindArgs (PySem.W.fnOf (dd 11).name (dd 11).qual (dd 11).params (dd 11).body (dd 11).scope .none kV doc pm an cdv ct) ⟨us, []⟩ = pure ((["row", "amount"] : List Str).zip us) := fun kV doc pm an cdv ct us hl => match us, hl with | [u0, u1], _ => by kernel_rfl
theorem a__law_taken : (dd 11).at_ = (("_law_taken", none) : Str × Option Str) := by kernel_rfl
theorem k__law_pick : chkS b__law_pick (scOf (["row", "things"] : List Str) (dd 12).scope ((dd 12).qual ++ ".<locals>.") false) (.b (dd 12).body) = true := by kernel_rfl
theorem n__law_pick : C8.scC (["row", "things"] : List Str) (["row", "things"] : List Str) (dd 12).scope = true := by kernel_rfl
theorem p__law_pick : ∀ (kV doc pm : Value) (an : Option Addr) (cdv ct : Value) (us : List Value), us.length = (["row", "things"] : List Str).length → bindArgs (PySem.W.fnOf (dd 12).name (dd 12).qual (dd 12).params (dd 12).body (dd 12).scope .none kV doc pm an cdv ct) ⟨us, []⟩ = pure ((["row", "things"] : List Str).zip us) := fun kV doc pm an cdv ct us hl => match us, hl with | [u0, u1], _ => by kernel_rfl
theorem a__law_pick : (dd 12).at_ = (("_law_pick", none) : Str × Option Str) := by kernel_rfl
theorem k__law_lay : chkS b__law_lay (scOf (["tokens", "width", "token", "lines", "found"] : List Str) (dd 17).scope ((dd 17).qual ++ ".<locals>.") false) (.b (dd 17).body) = true := by kernel_rfl
theorem n__law_lay : C8.scC (["tokens", "width", "token", "lines", "found"] : List Str) (["tokens", "width"] : List Str) (dd 17).scope = true := by kernel_rfl
theorem p__law_lay : ∀ (kV doc pm : Value) (an : Option Addr) (cdv ct : Value) (us : List Value), us.length = (["tokens", "width"] : List Str).length → bindArgs (PySem.W.fnOf (dd 17).name (dd 17).qual (dd 17).params (dd 17).body (dd 17).scope .none kV doc pm an cdv ct) ⟨us, []⟩ = pure ((["tokens", "width"] : List Str).zip us) := fun kV doc pm an cdv ct us hl => match us, hl with | [u0, u1], _ => by kernel_rfl
theorem a__law_lay : (dd 17).at_ = (("_law_lay", none) : Str × Option Str) := by kernel_rfl
theorem k__law_alike (f : Fn) : chkS (b__law_alike f) (scOf (["found", "due", "k"] : List Str) (dd 13).scope ((dd 13).qual ++ ".<locals>.") false) (.b (dd 13).body) = true := by kernel_rfl
theorem n__law_alike : C8.scC (["found", "due", "k"] : List Str) (["found", "due"] : List Str) (dd 13).scope = true := by kernel_rfl
theorem p__law_alike : ∀ (kV doc pm : Value) (an : Option Addr) (cdv ct : Value) (us : List Value), us.length = (["found", "due"] : List Str).length → bindArgs (PySem.W.fnOf (dd 13).name (dd 13).qual (dd 13).params (dd 13).body (dd 13).scope .none kV doc pm an cdv ct) ⟨us, []⟩ = pure ((["found", "due"] : List Str).zip us) := fun kV doc pm an cdv ct us hl => match us, hl with | [u0, u1], _ => by kernel_rfl
theorem a__law_alike : (dd 13).at_ = (("_law_alike", none) : Str × Option Str) := by kernel_rfl
theorem k_is_whole : chkS b_is_whole (scOf (["value"] : List Str) (dd 0).scope ((dd 0).qual ++ ".<locals>.") false) (.b (dd 0).body) = true := by kernel_rfl
theorem n_is_whole : C8.scC (["value"] : List Str) (["value"] : List Str) (dd 0).scope = true := by kernel_rfl
theorem p_is_whole : ∀ (kV doc pm : Value) (an : Option Addr) (cdv ct : Value) (us : List Value), us.length = (["value"] : List Str).length → bindArgs (PySem.W.fnOf (dd 0).name (dd 0).qual (dd 0).params (dd 0).body (dd 0).scope .none kV doc pm an cdv ct) ⟨us, []⟩ = pure ((["value"] : List Str).zip us) := fun kV doc pm an cdv ct us hl => match us, hl with | [u0], _ => by kernel_rfl
theorem a_is_whole : (dd 0).at_ = (("is_whole", none) : Str × Option Str) := by kernel_rfl
theorem k_is_within : chkS b_is_within (scOf (["value", "least", "most"] : List Str) (dd 1).scope ((dd 1).qual ++ ".<locals>.") false) (.b (dd 1).body) = true := by kernel_rfl
theorem n_is_within : C8.scC (["value", "least", "most"] : List Str) (["value", "least", "most"] : List Str) (dd 1).scope = true := by kernel_rfl
theorem p_is_within : ∀ (kV doc pm : Value) (an : Option Addr) (cdv ct : Value) (us : List Value), us.length = (["value", "least", "most"] : List Str).length → bindArgs (PySem.W.fnOf (dd 1).name (dd 1).qual (dd 1).params (dd 1).body (dd 1).scope .none kV doc pm an cdv ct) ⟨us, []⟩ = pure ((["value", "least", "most"] : List Str).zip us) := fun kV doc pm an cdv ct us hl => match us, hl with | [u0, u1, u2], _ => by kernel_rfl
theorem a_is_within : (dd 1).at_ = (("is_within", none) : Str × Option Str) := by kernel_rfl
theorem k_need_width : chkS b_need_width (scOf (["width"] : List Str) (dd 2).scope ((dd 2).qual ++ ".<locals>.") false) (.b (dd 2).body) = true := by kernel_rfl
theorem n_need_width : C8.scC (["width"] : List Str) (["width"] : List Str) (dd 2).scope = true := by kernel_rfl
theorem p_need_width : ∀ (kV doc pm : Value) (an : Option Addr) (cdv ct : Value) (us : List Value), us.length = (["width"] : List Str).length → bindArgs (PySem.W.fnOf (dd 2).name (dd 2).qual (dd 2).params (dd 2).body (dd 2).scope .none kV doc pm an cdv ct) ⟨us, []⟩ = pure ((["width"] : List Str).zip us) := fun kV doc pm an cdv ct us hl => match us, hl with | [u0], _ => by kernel_rfl
theorem a_need_width : (dd 2).at_ = (("need_width", none) : Str × Option Str) := by kernel_rfl
theorem k_line_numbers : chkS b_line_numbers (scOf (["lengths", "width", "length", "found", "line", "used"] : List Str) (dd 3).scope ((dd 3).qual ++ ".<locals>.") false) (.b (dd 3).body) = true := by kernel_rfl
theorem n_line_numbers : C8.scC (["lengths", "width", "length", "found", "line", "used"] : List Str) (["lengths", "width"] : List Str) (dd 3).scope = true := by kernel_rfl
theorem p_line_numbers : ∀ (kV doc pm : Value) (an : Option Addr) (cdv ct : Value) (us : List Value), us.length = (["lengths", "width"] : List Str).length → bindArgs (PySem.W.fnOf (dd 3).name (dd 3).qual (dd 3).params (dd 3).body (dd 3).scope .none kV doc pm an cdv ct) ⟨us, []⟩ = pure ((["lengths", "width"] : List Str).zip us) := fun kV doc pm an cdv ct us hl => match us, hl with | [u0, u1], _ => by kernel_rfl
theorem a_line_numbers : (dd 3).at_ = (("line_numbers", none) : Str × Option Str) := by kernel_rfl
theorem k_lines_of : chkS b_lines_of (scOf (["tokens", "width", "found", "token", "line"] : List Str) (dd 8).scope ((dd 8).qual ++ ".<locals>.") false) (.b (dd 8).body) = true := by kernel_rfl
theorem n_lines_of : C8.scC (["tokens", "width", "found", "token", "line"] : List Str) (["tokens", "width"] : List Str) (dd 8).scope = true := by kernel_rfl
theorem p_lines_of : ∀ (kV doc pm : Value) (an : Option Addr) (cdv ct : Value) (us : List Value), us.length = (["tokens", "width"] : List Str).length → bindArgs (PySem.W.fnOf (dd 8).name (dd 8).qual (dd 8).params (dd 8).body (dd 8).scope .none kV doc pm an cdv ct) ⟨us, []⟩ = pure ((["tokens", "width"] : List Str).zip us) := fun kV doc pm an cdv ct us hl => match us, hl with | [u0, u1], _ => by kernel_rfl
theorem a_lines_of : (dd 8).at_ = (("lines_of", none) : Str × Option Str) := by kernel_rfl
theorem k_many_lines : chkS b_many_lines (scOf (["lengths", "width", "found"] : List Str) (dd 4).scope ((dd 4).qual ++ ".<locals>.") false) (.b (dd 4).body) = true := by kernel_rfl
theorem n_many_lines : C8.scC (["lengths", "width", "found"] : List Str) (["lengths", "width"] : List Str) (dd 4).scope = true := by kernel_rfl
theorem p_many_lines : ∀ (kV doc pm : Value) (an : Option Addr) (cdv ct : Value) (us : List Value), us.length = (["lengths", "width"] : List Str).length → bindArgs (PySem.W.fnOf (dd 4).name (dd 4).qual (dd 4).params (dd 4).body (dd 4).scope .none kV doc pm an cdv ct) ⟨us, []⟩ = pure ((["lengths", "width"] : List Str).zip us) := fun kV doc pm an cdv ct us hl => match us, hl with | [u0, u1], _ => by kernel_rfl
theorem a_many_lines : (dd 4).at_ = (("many_lines", none) : Str × Option Str) := by kernel_rfl
theorem k__law_broken : chkS b__law_broken (scOf (["entry", "width", "k"] : List Str) (dd 18).scope ((dd 18).qual ++ ".<locals>.") false) (.b (dd 18).body) = true := by kernel_rfl
theorem n__law_broken : C8.scC (["entry", "width", "k"] : List Str) (["entry", "width"] : List Str) (dd 18).scope = true := by kernel_rfl
theorem p__law_broken : ∀ (kV doc pm : Value) (an : Option Addr) (cdv ct : Value) (us : List Value), us.length = (["entry", "width"] : List Str).length → bindArgs (PySem.W.fnOf (dd 18).name (dd 18).qual (dd 18).params (dd 18).body (dd 18).scope .none kV doc pm an cdv ct) ⟨us, []⟩ = pure ((["entry", "width"] : List Str).zip us) := fun kV doc pm an cdv ct us hl => match us, hl with | [u0, u1], _ => by kernel_rfl
theorem a__law_broken : (dd 18).at_ = (("_law_broken", none) : Str × Option Str) := by kernel_rfl
theorem k_entry_lines : chkS b_entry_lines (scOf (["length", "width"] : List Str) (dd 5).scope ((dd 5).qual ++ ".<locals>.") false) (.b (dd 5).body) = true := by kernel_rfl
theorem n_entry_lines : C8.scC (["length", "width"] : List Str) (["length", "width"] : List Str) (dd 5).scope = true := by kernel_rfl
theorem p_entry_lines : ∀ (kV doc pm : Value) (an : Option Addr) (cdv ct : Value) (us : List Value), us.length = (["length", "width"] : List Str).length → bindArgs (PySem.W.fnOf (dd 5).name (dd 5).qual (dd 5).params (dd 5).body (dd 5).scope .none kV doc pm an cdv ct) ⟨us, []⟩ = pure ((["length", "width"] : List Str).zip us) := fun kV doc pm an cdv ct us hl => match us, hl with | [u0, u1], _ => by kernel_rfl
theorem a_entry_lines : (dd 5).at_ = (("entry_lines", none) : Str × Option Str) := by kernel_rfl
theorem k_entry_starts : chkS b_entry_starts (scOf (["lengths", "width", "first", "length", "found", "line"] : List Str) (dd 6).scope ((dd 6).qual ++ ".<locals>.") false) (.b (dd 6).body) = true := by kernel_rfl
theorem n_entry_starts : C8.scC (["lengths", "width", "first", "length", "found", "line"] : List Str) (["lengths", "width", "first"] : List Str) (dd 6).scope = true := by kernel_rfl
theorem p_entry_starts : ∀ (kV doc pm : Value) (an : Option Addr) (cdv ct : Value) (us : List Value), us.length = (["lengths", "width", "first"] : List Str).length → bindArgs (PySem.W.fnOf (dd 6).name (dd 6).qual (dd 6).params (dd 6).body (dd 6).scope .none kV doc pm an cdv ct) ⟨us, []⟩ = pure ((["lengths", "width", "first"] : List Str).zip us) := fun kV doc pm an cdv ct us hl => match us, hl with | [u0, u1, u2], _ => by kernel_rfl
theorem a_entry_starts : (dd 6).at_ = (("entry_starts", none) : Str × Option Str) := by kernel_rfl
theorem k_broken : chkS b_broken (scOf (["entry", "width", "starts", "place", "start"] : List Str) (dd 9).scope ((dd 9).qual ++ ".<locals>.") false) (.b (dd 9).body) = true := by kernel_rfl
theorem n_broken : C8.scC (["entry", "width", "starts", "place", "start"] : List Str) (["entry", "width"] : List Str) (dd 9).scope = true := by kernel_rfl
theorem p_broken : ∀ (kV doc pm : Value) (an : Option Addr) (cdv ct : Value) (us : List Value), us.length = (["entry", "width"] : List Str).length → bindArgs (PySem.W.fnOf (dd 9).name (dd 9).qual (dd 9).params (dd 9).body (dd 9).scope .none kV doc pm an cdv ct) ⟨us, []⟩ = pure ((["entry", "width"] : List Str).zip us) := fun kV doc pm an cdv ct us hl => match us, hl with | [u0, u1], _ => by kernel_rfl
theorem a_broken : (dd 9).at_ = (("broken", none) : Str × Option Str) := by kernel_rfl
theorem k_page_of_line : chkS b_page_of_line (scOf (["line", "height"] : List Str) (dd 7).scope ((dd 7).qual ++ ".<locals>.") false) (.b (dd 7).body) = true := by kernel_rfl
theorem n_page_of_line : C8.scC (["line", "height"] : List Str) (["line", "height"] : List Str) (dd 7).scope = true := by kernel_rfl
theorem p_page_of_line : ∀ (kV doc pm : Value) (an : Option Addr) (cdv ct : Value) (us : List Value), us.length = (["line", "height"] : List Str).length → bindArgs (PySem.W.fnOf (dd 7).name (dd 7).qual (dd 7).params (dd 7).body (dd 7).scope .none kV doc pm an cdv ct) ⟨us, []⟩ = pure ((["line", "height"] : List Str).zip us) := fun kV doc pm an cdv ct us hl => match us, hl with | [u0, u1], _ => by kernel_rfl
theorem a_page_of_line : (dd 7).at_ = (("page_of_line", none) : Str × Option Str) := by kernel_rfl
theorem k_on_pages : chkS b_on_pages (scOf (["lines", "height", "starts", "start"] : List Str) (dd 10).scope ((dd 10).qual ++ ".<locals>.") false) (.b (dd 10).body) = true := by kernel_rfl
theorem n_on_pages : C8.scC (["lines", "height", "starts", "start"] : List Str) (["lines", "height"] : List Str) (dd 10).scope = true := by kernel_rfl
theorem p_on_pages : ∀ (kV doc pm : Value) (an : Option Addr) (cdv ct : Value) (us : List Value), us.length = (["lines", "height"] : List Str).length → bindArgs (PySem.W.fnOf (dd 10).name (dd 10).qual (dd 10).params (dd 10).body (dd 10).scope .none kV doc pm an cdv ct) ⟨us, []⟩ = pure ((["lines", "height"] : List Str).zip us) := fun kV doc pm an cdv ct us hl => match us, hl with | [u0, u1], _ => by kernel_rfl
theorem a_on_pages : (dd 10).at_ = (("on_pages", none) : Str × Option Str) := by kernel_rfl
theorem k__law_same : chkS b__law_same (scTop (["found", "due"] : List Str) (dd 14).scope ((dd 14).qual ++ ".<locals>.") false) (.b (dd 14).body) = true := by kernel_rfl
theorem n__law_same : C8.scC (["found", "due"] : List Str) (["found", "due"] : List Str) (dd 14).scope = true := by kernel_rfl
theorem p__law_same : ∀ (kV doc pm : Value) (an : Option Addr) (cdv ct : Value) (us : List Value), us.length = (["found", "due"] : List Str).length → bindArgs (PySem.W.fnOf (dd 14).name (dd 14).qual (dd 14).params (dd 14).body (dd 14).scope .none kV doc pm an cdv ct) ⟨us, []⟩ = pure ((["found", "due"] : List Str).zip us) := fun kV doc pm an cdv ct us hl => match us, hl with | [u0, u1], _ => by kernel_rfl
theorem a__law_same : (dd 14).at_ = (("_law_same", none) : Str × Option Str) := by kernel_rfl
theorem k__law_refusal : chkS b__law_refusal (hotSC (["e", "kinds", "marks", "name"] : List Str) (dd 16).scope ((dd 16).qual ++ ".<locals>.")) (.b (dd 16).body) = true := by kernel_rfl
theorem n__law_refusal : C8.scC (["e", "kinds", "marks", "name"] : List Str) (["e"] : List Str) (dd 16).scope = true := by kernel_rfl
theorem p__law_refusal : ∀ (kV doc pm : Value) (an : Option Addr) (cdv ct : Value) (us : List Value), us.length = (["e"] : List Str).length → bindArgs (PySem.W.fnOf (dd 16).name (dd 16).qual (dd 16).params (dd 16).body (dd 16).scope .none kV doc pm an cdv ct) ⟨us, []⟩ = pure ((["e"] : List Str).zip us) := fun kV doc pm an cdv ct us hl => match us, hl with | [u0], _ => by kernel_rfl
theorem a__law_refusal : (dd 16).at_ = (("_law_refusal", none) : Str × Option Str) := by kernel_rfl
theorem k_law0 : (match (dd 19).body with | st :: _ => rowSt (scLaw (["script", "row", "turn", "calls", "more", "tokens", "lengths", "pieces", "starts", "pages", "wrong", "odd", "width", "height", "first", "lines", "places", "token", "k", "call", "one"] : List Str) (dd 19).scope ((dd 19).qual ++ ".<locals>.") true) (0) (27707) (0) st | [] => false) = true := by kernel_rfl
theorem k_law : chkS b_law (scLaw (["script", "row", "turn", "calls", "more", "tokens", "lengths", "pieces", "starts", "pages", "wrong", "odd", "width", "height", "first", "lines", "places", "token", "k", "call", "one"] : List Str) (dd 19).scope ((dd 19).qual ++ ".<locals>.") true) (.b (dd 19).body.tail) = true := by kernel_rfl
theorem n_law : C8.scC (["script", "row", "turn", "calls", "more", "tokens", "lengths", "pieces", "starts", "pages", "wrong", "odd", "width", "height", "first", "lines", "places", "token", "k", "call", "one"] : List Str) (["script"] : List Str) (dd 19).scope = true := by kernel_rfl
theorem p_law : ∀ (kV doc pm : Value) (an : Option Addr) (cdv ct : Value) (us : List Value), us.length = (["script"] : List Str).length → bindArgs (PySem.W.fnOf (dd 19).name (dd 19).qual (dd 19).params (dd 19).body (dd 19).scope .none kV doc pm an cdv ct) ⟨us, []⟩ = pure ((["script"] : List Str).zip us) := fun kV doc pm an cdv ct us hl => match us, hl with | [u0], _ => by kernel_rfl
theorem a_law : (dd 19).at_ = (("law", none) : Str × Option Str) := by kernel_rfl
theorem k__law_told : toldB (["call", "e"] : List Str) (dd 15).scope "call" "CiteError" "_law_refusal" (dd 15).body = true := by kernel_rfl
theorem n__law_told : C8.scC (["call", "e"] : List Str) (["call"] : List Str) (dd 15).scope = true := by kernel_rfl
theorem p__law_told : ∀ (kV doc pm : Value) (an : Option Addr) (cdv ct : Value) (us : List Value), us.length = (["call"] : List Str).length → bindArgs (PySem.W.fnOf (dd 15).name (dd 15).qual (dd 15).params (dd 15).body (dd 15).scope .none kV doc pm an cdv ct) ⟨us, []⟩ = pure ((["call"] : List Str).zip us) := fun kV doc pm an cdv ct us hl => match us, hl with | [u0], _ => by kernel_rfl
theorem a__law_told : (dd 15).at_ = (("_law_told", none) : Str × Option Str) := by kernel_rfl
theorem v__law_told : L2.Vis (dd 15).scope "call" := .inl (by kernel_rfl)
theorem q__law_told : (dd 15).name = "_law_told" ∧ (dd 15).qual = "_law_told" := ⟨by kernel_rfl, by kernel_rfl⟩
end LW
set_option Elab.async false
set_option linter.all false
set_option maxRecDepth 100000
set_option maxHeartbeats 0
namespace LW
open PySem DI
theorem o__law_taken {W : Wd} {k : Nat} (hk : 0 < k) : OkS W k b__law_taken := by
  simp only [b__law_taken, OkT, not_false_eq_true, implies_true, OkS, tgK, OkE, noB, noBs, kd, biS, mtS, oneT, allF, okM, List.map_cons, List.map_nil, and_true, true_and, and_self, List.mem_cons, List.not_mem_nil, or_false, forall_eq_or_imp, forall_eq, hk]
theorem o__law_pick {W : Wd} {k : Nat} (hk : 0 < k) (h__law_taken : FnS W k "_law_taken" f__law_taken) : OkS W k b__law_pick := by
  simp only [b__law_pick, OkT, not_false_eq_true, implies_true, OkS, tgK, OkE, noB, noBs, kd, biS, mtS, oneT, allF, okM, List.map_cons, List.map_nil, and_true, true_and, and_self, List.mem_cons, List.not_mem_nil, or_false, forall_eq_or_imp, forall_eq, hk, h__law_taken]
theorem o__law_lay {W : Wd} {k : Nat} (hk : 0 < k) : OkS W k b__law_lay := by
  simp only [b__law_lay, OkT, not_false_eq_true, implies_true, OkS, tgK, OkE, noB, noBs, kd, biS, mtS, oneT, allF, okM, List.map_cons, List.map_nil, and_true, true_and, and_self, List.mem_cons, List.not_mem_nil, or_false, forall_eq_or_imp, forall_eq, hk]
theorem o__law_alike {W : Wd} {k : Nat} {f : Fn} (hk : 0 < k) (h_self : FnS W k "_law_alike" f) : OkS W k (b__law_alike f) := by
  simp only [b__law_alike, OkT, not_false_eq_true, implies_true, OkS, tgK, OkE, noB, noBs, kd, biS, mtS, oneT, allF, okM, List.map_cons, List.map_nil, and_true, true_and, and_self, List.mem_cons, List.not_mem_nil, or_false, forall_eq_or_imp, forall_eq, hk, h_self]
theorem o_is_whole {W : Wd} {k : Nat} (hk : 0 < k) : OkS W k b_is_whole := by
  simp only [b_is_whole, OkT, not_false_eq_true, implies_true, OkS, tgK, OkE, noB, noBs, kd, biS, mtS, oneT, allF, okM, List.map_cons, List.map_nil, and_true, true_and, and_self, List.mem_cons, List.not_mem_nil, or_false, forall_eq_or_imp, forall_eq, hk]
theorem o_is_within {W : Wd} {k : Nat} (hk : 0 < k) (h_is_whole : FnS W k "is_whole" f_is_whole) : OkS W k b_is_within := by
  simp only [b_is_within, OkT, not_false_eq_true, implies_true, OkS, tgK, OkE, noB, noBs, kd, biS, mtS, oneT, allF, okM, List.map_cons, List.map_nil, and_true, true_and, and_self, List.mem_cons, List.not_mem_nil, or_false, forall_eq_or_imp, forall_eq, hk, h_is_whole]
theorem o_need_width {W : Wd} {k : Nat} (hk : 0 < k) (hk1 : 1 < k) (hx_BadNumber : ExcS W "BadNumber" 2) (hn_BadNumber : (W.cf 2).length = 1) (h_is_within : FnS W k "is_within" f_is_within) (hc_MOST_WIDTH : GlobS W "MOST_WIDTH" c_MOST_WIDTH) : OkS W k b_need_width := by
  simp only [b_need_width, OkT, not_false_eq_true, implies_true, OkS, tgK, OkE, noB, noBs, kd, biS, mtS, oneT, allF, okM, List.map_cons, List.map_nil, and_true, true_and, and_self, List.mem_cons, List.not_mem_nil, or_false, forall_eq_or_imp, forall_eq, hk, hk1, hx_BadNumber, hn_BadNumber, h_is_within, hc_MOST_WIDTH]
theorem o_line_numbers {W : Wd} {k : Nat} (hk : 0 < k) (h_need_width : FnS W k "need_width" f_need_width) : OkS W k b_line_numbers := by
  simp only [b_line_numbers, OkT, not_false_eq_true, implies_true, OkS, tgK, OkE, noB, noBs, kd, biS, mtS, oneT, allF, okM, List.map_cons, List.map_nil, and_true, true_and, and_self, List.mem_cons, List.not_mem_nil, or_false, forall_eq_or_imp, forall_eq, hk, h_need_width]
theorem o_lines_of {W : Wd} {k : Nat} (hk : 0 < k) (h_line_numbers : FnS W k "line_numbers" f_line_numbers) : OkS W k b_lines_of := by
  simp only [b_lines_of, OkT, not_false_eq_true, implies_true, OkS, tgK, OkE, noB, noBs, kd, biS, mtS, oneT, allF, okM, List.map_cons, List.map_nil, and_true, true_and, and_self, List.mem_cons, List.not_mem_nil, or_false, forall_eq_or_imp, forall_eq, hk, h_line_numbers]
theorem o_many_lines {W : Wd} {k : Nat} (hk : 0 < k) (h_line_numbers : FnS W k "line_numbers" f_line_numbers) : OkS W k b_many_lines := by
  simp only [b_many_lines, OkT, not_false_eq_true, implies_true, OkS, tgK, OkE, noB, noBs, kd, biS, mtS, oneT, allF, okM, List.map_cons, List.map_nil, and_true, true_and, and_self, List.mem_cons, List.not_mem_nil, or_false, forall_eq_or_imp, forall_eq, hk, h_line_numbers]
theorem o__law_broken {W : Wd} {k : Nat} (hk : 0 < k) : OkS W k b__law_broken := by
  simp only [b__law_broken, OkT, not_false_eq_true, implies_true, OkS, tgK, OkE, noB, noBs, kd, biS, mtS, oneT, allF, okM, List.map_cons, List.map_nil, and_true, true_and, and_self, List.mem_cons, List.not_mem_nil, or_false, forall_eq_or_imp, forall_eq, hk]
theorem o_entry_lines {W : Wd} {k : Nat} (hk : 0 < k) : OkS W k b_entry_lines := by
  simp only [b_entry_lines, OkT, not_false_eq_true, implies_true, OkS, tgK, OkE, noB, noBs, kd, biS, mtS, oneT, allF, okM, List.map_cons, List.map_nil, and_true, true_and, and_self, List.mem_cons, List.not_mem_nil, or_false, forall_eq_or_imp, forall_eq, hk]
theorem o_entry_starts {W : Wd} {k : Nat} (hk : 0 < k) (h_need_width : FnS W k "need_width" f_need_width) (h_entry_lines : FnS W k "entry_lines" f_entry_lines) : OkS W k b_entry_starts := by
  simp only [b_entry_starts, OkT, not_false_eq_true, implies_true, OkS, tgK, OkE, noB, noBs, kd, biS, mtS, oneT, allF, okM, List.map_cons, List.map_nil, and_true, true_and, and_self, List.mem_cons, List.not_mem_nil, or_false, forall_eq_or_imp, forall_eq, hk, h_need_width, h_entry_lines]
theorem o_broken {W : Wd} {k : Nat} (hk : 0 < k) (h_need_width : FnS W k "need_width" f_need_width) (h_entry_lines : FnS W k "entry_lines" f_entry_lines) : OkS W k b_broken := by
  simp only [b_broken, OkT, not_false_eq_true, implies_true, OkS, tgK, OkE, noB, noBs, kd, biS, mtS, oneT, allF, okM, List.map_cons, List.map_nil, and_true, true_and, and_self, List.mem_cons, List.not_mem_nil, or_false, forall_eq_or_imp, forall_eq, hk, h_need_width, h_entry_lines]
theorem o_page_of_line {W : Wd} {k : Nat} (hk : 0 < k) (hk1 : 1 < k) (hx_BadNumber : ExcS W "BadNumber" 2) (hn_BadNumber : (W.cf 2).length = 1) (h_is_within : FnS W k "is_within" f_is_within) (hc_MOST_HEIGHT : GlobS W "MOST_HEIGHT" c_MOST_HEIGHT) : OkS W k b_page_of_line := by
  simp only [b_page_of_line, OkT, not_false_eq_true, implies_true, OkS, tgK, OkE, noB, noBs, kd, biS, mtS, oneT, allF, okM, List.map_cons, List.map_nil, and_true, true_and, and_self, List.mem_cons, List.not_mem_nil, or_false, forall_eq_or_imp, forall_eq, hk, hk1, hx_BadNumber, hn_BadNumber, h_is_within, hc_MOST_HEIGHT]
theorem o_on_pages {W : Wd} {k : Nat} (hk : 0 < k) (h_page_of_line : FnS W k "page_of_line" f_page_of_line) : OkS W k b_on_pages := by
  simp only [b_on_pages, OkT, not_false_eq_true, implies_true, OkS, tgK, OkE, noB, noBs, kd, biS, mtS, oneT, allF, okM, List.map_cons, List.map_nil, and_true, true_and, and_self, List.mem_cons, List.not_mem_nil, or_false, forall_eq_or_imp, forall_eq, hk, h_page_of_line]
theorem o__law_same {W : Wd} {k : Nat} (hk : 0 < k) : OkS W k b__law_same := by
  simp only [b__law_same, OkT, not_false_eq_true, implies_true, OkS, tgK, OkE, noB, noBs, kd, biS, mtS, oneT, allF, okM, List.map_cons, List.map_nil, and_true, true_and, and_self, List.mem_cons, List.not_mem_nil, or_false, forall_eq_or_imp, forall_eq, hk]
theorem o__law_refusal {W : Wd} {k : Nat} (hi_0 : IsS W [2] [] "NothingDone") (hi_1 : IsS W [2] [] "BadClaim") (hi_2 : IsS W [2] [] "BadLine") (hi_3 : IsS W [2] [] "BadText") (hi_4 : IsS W [2] [] "BadChange") (hi_5 : IsS W [2] [] "BadMark") (hi_6 : IsS W [2] [] "Unknown") (hi_7 : IsS W [2] [2] "BadNumber") (hi_8 : IsS W [2] [] "BadPart") (hi_9 : IsS W [2] [2] "ValueError") (hxf_0 : XfS W [] "place") (hxf_1 : XfS W [] "part") (hxf_2 : XfS W [(2, 0)] "value") (hxf_3 : XfS W [] "name") (hxf_4 : XfS W [] "line") : OkS W k b__law_refusal := by
  simp only [b__law_refusal, OkT, not_false_eq_true, implies_true, OkS, tgK, OkE, noB, noBs, kd, biS, mtS, oneT, allF, okM, List.map_cons, List.map_nil, and_true, true_and, and_self, List.mem_cons, List.not_mem_nil, or_false, forall_eq_or_imp, forall_eq, hi_0, hi_1, hi_2, hi_3, hi_4, hi_5, hi_6, hi_7, hi_8, hi_9, hxf_0, hxf_1, hxf_2, hxf_3, hxf_4]
theorem kt_200 : kd t_200 = .c := rfl
theorem ot_200 {W : Wd} {k : Nat} (hk2 : 0 < k - 2) (ht_entry_starts : FnS W (k - 2) "entry_starts" f_entry_starts) (ht_broken : FnS W (k - 2) "broken" f_broken) (ht_lines_of : FnS W (k - 2) "lines_of" f_lines_of) (ht_many_lines : FnS W (k - 2) "many_lines" f_many_lines) (ht_line_numbers : FnS W (k - 2) "line_numbers" f_line_numbers) (ht_on_pages : FnS W (k - 2) "on_pages" f_on_pages) (ht_page_of_line : FnS W (k - 2) "page_of_line" f_page_of_line) : OkE W (k - 2) t_200 := by
  simp only [t_200, OkT, not_false_eq_true, implies_true, OkS, tgK, OkE, noB, noBs, kd, biS, mtS, oneT, allF, okM, List.map_cons, List.map_nil, and_true, true_and, and_self, List.mem_cons, List.not_mem_nil, or_false, forall_eq_or_imp, forall_eq, hk2, ht_entry_starts, ht_broken, ht_lines_of, ht_many_lines, ht_line_numbers, ht_on_pages, ht_page_of_line]
theorem kt_201 : kd t_201 = .c := rfl
theorem ot_201 {W : Wd} {k : Nat} (hk2 : 0 < k - 2) (ht_entry_starts : FnS W (k - 2) "entry_starts" f_entry_starts) (ht_broken : FnS W (k - 2) "broken" f_broken) (ht_lines_of : FnS W (k - 2) "lines_of" f_lines_of) (ht_many_lines : FnS W (k - 2) "many_lines" f_many_lines) (ht_line_numbers : FnS W (k - 2) "line_numbers" f_line_numbers) (ht_on_pages : FnS W (k - 2) "on_pages" f_on_pages) (ht_page_of_line : FnS W (k - 2) "page_of_line" f_page_of_line) : OkE W (k - 2) t_201 := by
  simp only [t_201, OkT, not_false_eq_true, implies_true, OkS, tgK, OkE, noB, noBs, kd, biS, mtS, oneT, allF, okM, List.map_cons, List.map_nil, and_true, true_and, and_self, List.mem_cons, List.not_mem_nil, or_false, forall_eq_or_imp, forall_eq, hk2, ht_entry_starts, ht_broken, ht_lines_of, ht_many_lines, ht_line_numbers, ht_on_pages, ht_page_of_line]
theorem kt_202 : kd t_202 = .c := rfl
theorem ot_202 {W : Wd} {k : Nat} (hk2 : 0 < k - 2) (ht_entry_starts : FnS W (k - 2) "entry_starts" f_entry_starts) (ht_broken : FnS W (k - 2) "broken" f_broken) (ht_lines_of : FnS W (k - 2) "lines_of" f_lines_of) (ht_many_lines : FnS W (k - 2) "many_lines" f_many_lines) (ht_line_numbers : FnS W (k - 2) "line_numbers" f_line_numbers) (ht_on_pages : FnS W (k - 2) "on_pages" f_on_pages) (ht_page_of_line : FnS W (k - 2) "page_of_line" f_page_of_line) : OkE W (k - 2) t_202 := by
  simp only [t_202, OkT, not_false_eq_true, implies_true, OkS, tgK, OkE, noB, noBs, kd, biS, mtS, oneT, allF, okM, List.map_cons, List.map_nil, and_true, true_and, and_self, List.mem_cons, List.not_mem_nil, or_false, forall_eq_or_imp, forall_eq, hk2, ht_entry_starts, ht_broken, ht_lines_of, ht_many_lines, ht_line_numbers, ht_on_pages, ht_page_of_line]
theorem kt_203 : kd t_203 = .c := rfl
theorem ot_203 {W : Wd} {k : Nat} (hk2 : 0 < k - 2) (ht_entry_starts : FnS W (k - 2) "entry_starts" f_entry_starts) (ht_broken : FnS W (k - 2) "broken" f_broken) (ht_lines_of : FnS W (k - 2) "lines_of" f_lines_of) (ht_many_lines : FnS W (k - 2) "many_lines" f_many_lines) (ht_line_numbers : FnS W (k - 2) "line_numbers" f_line_numbers) (ht_on_pages : FnS W (k - 2) "on_pages" f_on_pages) (ht_page_of_line : FnS W (k - 2) "page_of_line" f_page_of_line) : OkE W (k - 2) t_203 := by
  simp only [t_203, OkT, not_false_eq_true, implies_true, OkS, tgK, OkE, noB, noBs, kd, biS, mtS, oneT, allF, okM, List.map_cons, List.map_nil, and_true, true_and, and_self, List.mem_cons, List.not_mem_nil, or_false, forall_eq_or_imp, forall_eq, hk2, ht_entry_starts, ht_broken, ht_lines_of, ht_many_lines, ht_line_numbers, ht_on_pages, ht_page_of_line]
theorem kt_204 : kd t_204 = .c := rfl
theorem ot_204 {W : Wd} {k : Nat} (hk2 : 0 < k - 2) (ht_entry_starts : FnS W (k - 2) "entry_starts" f_entry_starts) (ht_broken : FnS W (k - 2) "broken" f_broken) (ht_lines_of : FnS W (k - 2) "lines_of" f_lines_of) (ht_many_lines : FnS W (k - 2) "many_lines" f_many_lines) (ht_line_numbers : FnS W (k - 2) "line_numbers" f_line_numbers) (ht_on_pages : FnS W (k - 2) "on_pages" f_on_pages) (ht_page_of_line : FnS W (k - 2) "page_of_line" f_page_of_line) : OkE W (k - 2) t_204 := by
  simp only [t_204, OkT, not_false_eq_true, implies_true, OkS, tgK, OkE, noB, noBs, kd, biS, mtS, oneT, allF, okM, List.map_cons, List.map_nil, and_true, true_and, and_self, List.mem_cons, List.not_mem_nil, or_false, forall_eq_or_imp, forall_eq, hk2, ht_entry_starts, ht_broken, ht_lines_of, ht_many_lines, ht_line_numbers, ht_on_pages, ht_page_of_line]
theorem kt_205 : kd t_205 = .c := rfl
theorem ot_205 {W : Wd} {k : Nat} (hk2 : 0 < k - 2) (ht_entry_starts : FnS W (k - 2) "entry_starts" f_entry_starts) (ht_broken : FnS W (k - 2) "broken" f_broken) (ht_lines_of : FnS W (k - 2) "lines_of" f_lines_of) (ht_many_lines : FnS W (k - 2) "many_lines" f_many_lines) (ht_line_numbers : FnS W (k - 2) "line_numbers" f_line_numbers) (ht_on_pages : FnS W (k - 2) "on_pages" f_on_pages) (ht_page_of_line : FnS W (k - 2) "page_of_line" f_page_of_line) : OkE W (k - 2) t_205 := by
  simp only [t_205, OkT, not_false_eq_true, implies_true, OkS, tgK, OkE, noB, noBs, kd, biS, mtS, oneT, allF, okM, List.map_cons, List.map_nil, and_true, true_and, and_self, List.mem_cons, List.not_mem_nil, or_false, forall_eq_or_imp, forall_eq, hk2, ht_entry_starts, ht_broken, ht_lines_of, ht_many_lines, ht_line_numbers, ht_on_pages, ht_page_of_line]
theorem kt_206 : kd t_206 = .c := rfl
theorem ot_206 {W : Wd} {k : Nat} (hk2 : 0 < k - 2) (ht_entry_starts : FnS W (k - 2) "entry_starts" f_entry_starts) (ht_broken : FnS W (k - 2) "broken" f_broken) (ht_lines_of : FnS W (k - 2) "lines_of" f_lines_of) (ht_many_lines : FnS W (k - 2) "many_lines" f_many_lines) (ht_line_numbers : FnS W (k - 2) "line_numbers" f_line_numbers) (ht_on_pages : FnS W (k - 2) "on_pages" f_on_pages) (ht_page_of_line : FnS W (k - 2) "page_of_line" f_page_of_line) : OkE W (k - 2) t_206 := by
  simp only [t_206, OkT, not_false_eq_true, implies_true, OkS, tgK, OkE, noB, noBs, kd, biS, mtS, oneT, allF, okM, List.map_cons, List.map_nil, and_true, true_and, and_self, List.mem_cons, List.not_mem_nil, or_false, forall_eq_or_imp, forall_eq, hk2, ht_entry_starts, ht_broken, ht_lines_of, ht_many_lines, ht_line_numbers, ht_on_pages, ht_page_of_line]
theorem o_law {W : Wd} {k : Nat} (hk : 0 < k) (hg__law_same : FnG W k "_law_same" f__law_same) (hto : ToldS W k "_law_told" nsT) (hk2 : 0 < k - 2) (ht_entry_starts : FnS W (k - 2) "entry_starts" f_entry_starts) (ht_broken : FnS W (k - 2) "broken" f_broken) (ht_lines_of : FnS W (k - 2) "lines_of" f_lines_of) (ht_many_lines : FnS W (k - 2) "many_lines" f_many_lines) (ht_line_numbers : FnS W (k - 2) "line_numbers" f_line_numbers) (ht_on_pages : FnS W (k - 2) "on_pages" f_on_pages) (ht_page_of_line : FnS W (k - 2) "page_of_line" f_page_of_line) (hcl_200 : W.clms 200 = some t_200 ∧ ∀ cs v F, ¬ W.fo 200 cs v F) (hob_200 : OkE W (k - 2) t_200) (hcl_201 : W.clms 201 = some t_201 ∧ ∀ cs v F, ¬ W.fo 201 cs v F) (hob_201 : OkE W (k - 2) t_201) (hcl_202 : W.clms 202 = some t_202 ∧ ∀ cs v F, ¬ W.fo 202 cs v F) (hob_202 : OkE W (k - 2) t_202) (hcl_203 : W.clms 203 = some t_203 ∧ ∀ cs v F, ¬ W.fo 203 cs v F) (hob_203 : OkE W (k - 2) t_203) (hcl_204 : W.clms 204 = some t_204 ∧ ∀ cs v F, ¬ W.fo 204 cs v F) (hob_204 : OkE W (k - 2) t_204) (hcl_205 : W.clms 205 = some t_205 ∧ ∀ cs v F, ¬ W.fo 205 cs v F) (hob_205 : OkE W (k - 2) t_205) (hcl_206 : W.clms 206 = some t_206 ∧ ∀ cs v F, ¬ W.fo 206 cs v F) (hob_206 : OkE W (k - 2) t_206) (h__law_taken : FnS W k "_law_taken" f__law_taken) (h__law_pick : FnS W k "_law_pick" f__law_pick) (h__law_lay : FnS W k "_law_lay" f__law_lay) (h__law_alike : FnS W k "_law_alike" f__law_alike) (h_lines_of : FnS W k "lines_of" f_lines_of) (h_many_lines : FnS W k "many_lines" f_many_lines) (h_line_numbers : FnS W k "line_numbers" f_line_numbers) (h__law_broken : FnS W k "_law_broken" f__law_broken) (h_entry_starts : FnS W k "entry_starts" f_entry_starts) (h_broken : FnS W k "broken" f_broken) (h_on_pages : FnS W k "on_pages" f_on_pages) (h_page_of_line : FnS W k "page_of_line" f_page_of_line) : OkS W k b_law := by
  simp only [b_law, OkT, not_false_eq_true, implies_true, OkS, tgK, OkE, noB, noBs, kd, biS, mtS, oneT, allF, okM, List.map_cons, List.map_nil, and_true, true_and, and_self, List.mem_cons, List.not_mem_nil, or_false, forall_eq_or_imp, forall_eq, kt_200, kt_201, kt_202, kt_203, kt_204, kt_205, kt_206, hk, hg__law_same, hto, hk2, ht_entry_starts, ht_broken, ht_lines_of, ht_many_lines, ht_line_numbers, ht_on_pages, ht_page_of_line, hcl_200, hob_200, hcl_201, hob_201, hcl_202, hob_202, hcl_203, hob_203, hcl_204, hob_204, hcl_205, hob_205, hcl_206, hob_206, h__law_taken, h__law_pick, h__law_lay, h__law_alike, h_lines_of, h_many_lines, h_line_numbers, h__law_broken, h_entry_starts, h_broken, h_on_pages, h_page_of_line]
end LW
set_option linter.all false
set_option maxRecDepth 100000
/-! Q0: plain laws: what the small language's evaluator gives. -/
namespace DQ
open PySem DI
def Wp {α : Type} (x : Rs α) (Q : α → Rho → Prop) : Prop := match x with
  | .ok a r => Q a r
  | _ => False
@[simp] theorem Wp_ok {α : Type} {a : α} {r : Rho} {Q : α → Rho → Prop} : Wp (.ok a r) Q ↔ Q a r := Iff.rfl
@[simp] theorem Wp_stuck {α : Type} {Q : α → Rho → Prop} : Wp (.stuck : Rs α) Q ↔ False := Iff.rfl
@[simp] theorem Wp_exc {α : Type} {x : Exc} {r : Rho} {Q : α → Rho → Prop} : Wp (.exc x r : Rs α) Q ↔ False := Iff.rfl
theorem Wp_bind {α β : Type} {x : Rs α} {f : α → Rho → Rs β} {Q : β → Rho → Prop} : Wp (x.bind f) Q ↔ Wp x fun a r => Wp (f a r) Q := by
  cases x <;> exact Iff.rfl
theorem Wp_calm {α : Type} {x : Rs α} {Q : α → Rho → Prop} : Wp x.calm Q ↔ Wp x Q := by
  cases x <;> exact Iff.rfl
theorem Wp.mono {α : Type} {x : Rs α} {Q Q' : α → Rho → Prop} (h : Wp x Q) (i : ∀ a r, Q a r → Q' a r) : Wp x Q' := by
  cases x <;> first | exact i _ _ h | exact h
theorem Wp.of_eq {α : Type} {x : Rs α} {a : α} {r : Rho} {Q : α → Rho → Prop} (e : x = .ok a r) (h : Q a r) : Wp x Q := by rw [e]; exact h
theorem Wp.out {α : Type} {x : Rs α} {Q : α → Rho → Prop} (h : Wp x Q) : ∃ a r, x = .ok a r ∧ Q a r := by
  cases x <;> first | exact ⟨_, _, rfl, h⟩ | exact h.elim
/-! ### loops -/
theorem mapR_pure {f : D → Rho → Rs (Option D)} {g : D → Option D} {r : Rho} : ∀ {ds : List D}, (∀ d ∈ ds, f d r = .ok (g d) r) → mapR f ds r = .ok (ds.filterMap g) r
  | [], _ => rfl
  | d :: ds, h => by
    rw [mapR, h d (List.mem_cons_self ..), Rs.bind_ok, mapR_pure fun x hx => h x (List.mem_cons_of_mem _ hx), Rs.bind_ok]
    cases e : g d <;> simp [List.filterMap_cons, e]
theorem mapR_wp {f : D → Rho → Rs (Option D)} {I : Rho → Prop} {P : D → Prop} : ∀ {ds : List D} {r : Rho}, I r → (∀ d ∈ ds, ∀ r, I r → Wp (f d r) fun o r' => I r' ∧ ∃ x, o = some x ∧ P x) → Wp (mapR f ds r) fun l r' => I r' ∧ l.length = ds.length ∧ ∀ x ∈ l, P x
  | [], r, hr, _ => ⟨hr, rfl, fun x hx => by cases hx⟩
  | d :: ds, r, hr, h => by
    rw [mapR, Wp_bind]
    refine (h d (List.mem_cons_self ..) r hr).mono fun o r1 ⟨h1, x, ho, hx⟩ => ?_
    subst ho
    rw [Wp_bind]
    refine (mapR_wp h1 fun d hd => h d (List.mem_cons_of_mem _ hd)).mono fun l r2 ⟨h2, h3, h4⟩ => ?_
    refine ⟨h2, by simp [h3], fun y hy => ?_⟩
    rcases List.mem_cons.mp hy with e | e
    · rw [e]; exact hx
    · exact h4 y e
theorem forR_wp {f : D → St → Rho → Rs Fl} {kills : List Nat} {I : Nat → St → Rho → Prop} {Q : Fl → Rho → Prop} : ∀ (ds : List D) (i : Nat) (σ : St) (r : Rho), I i σ r →
    (∀ (j : Nat) (d : D) (σ : St) (r : Rho), ds[j]? = some d → I (i + j) σ r → Wp (f d σ r) fun fl r' => (∃ σ', fl = .nx σ' ∧ I (i + j + 1) (killS σ' kills) r')) → (∀ σ r, I (i + ds.length) σ r → Q (.nx σ) r) → Wp (forR f kills ds σ r) Q
  | [], i, σ, r, h, _, q => q σ r h
  | d :: ds, i, σ, r, h, hs, q => by
    rw [forR, Wp_bind]
    refine (hs 0 d σ r rfl h).mono fun fl r1 ⟨σ', e, h1⟩ => ?_
    subst e
    refine forR_wp ds (i + 1) _ _ h1 (fun j d' σ r hj hI => ?_) (fun σ r hI => q σ r ?_)
    · have := hs (j + 1) d' σ r hj (by rw [show i + (j + 1) = i + 1 + j by omega]; exact hI)
      rw [show i + (j + 1) + 1 = i + 1 + j + 1 by omega] at this
      exact this
    · rw [List.length_cons, show i + (ds.length + 1) = i + 1 + ds.length by omega]; exact hI
/-! ### equality of data -/
@[simp] theorem eqD_str (x y : Str) : eqD (.str x) (.str y) = decide (x = y) := by
  simp only [eqD, toPy, PyData.eqv]
  by_cases h : x = y <;> simp [h]
@[simp] theorem eqD_int (x y : Int) : eqD (.int x) (.int y) = decide (x = y) := by
  simp only [eqD, toPy, PyData.eqv]
  by_cases h : x = y <;> simp [h]
/-! ### one step of the evaluator, by named continuations -/
def hVar : Option Slot → Rho → Rs D
  | some (.val d), r => .ok d r
  | _, _ => .stuck
def hOwn : Option Slot → Rho → Rs D
  | some (.own ds), r => .ok (.lst ds) r
  | some (.ownd kvs), r => .ok (.dic kvs) r
  | _, _ => .stuck
def hAnd (k : Rho → Rs D) : D → Rho → Rs D
  | .bl true, r => k r
  | .bl false, r => .ok (.bl false) r
  | _, _ => .stuck
def hOr (k : Rho → Rs D) : D → Rho → Rs D
  | .bl true, r => .ok (.bl true) r
  | .bl false, r => k r
  | _, _ => .stuck
def hIf {α : Type} (k l : Rho → Rs α) : D → Rho → Rs α
  | .bl true, r => k r
  | .bl false, r => l r
  | _, _ => .stuck
def hCons (x : D) : D → Rho → Rs D
  | .tup ds, r => .ok (.tup (x :: ds)) r
  | _, _ => .stuck
def hTup {α : Type} (k : List D → Rho → Rs α) : D → Rho → Rs α
  | .tup ds, r => k ds r
  | _, _ => .stuck
def hChain (k : Rho → Rs D) : Option Bool → Rho → Rs D
  | some true, r => k r
  | some false, r => .ok (.bl false) r
  | none, _ => .stuck
def hFld (c j : Nat) : D → Rho → Rs D
  | .obj c' ds, r => if c' = c then .lift ds[j]? r else .stuck
  | _, _ => .stuck
def hOpt {α β : Type} (k : α → Rs β) : Option α → Rs β
  | some x => k x
  | none => .stuck
@[simp] theorem hOpt_some {α β : Type} {k : α → Rs β} {x : α} : hOpt k (some x) = k x := rfl
def hRng1 : D → Rho → Rs D
  | .int j, r => if -(2 ^ 62) ≤ j ∧ j ≤ 16000000 then .ok (.lst (rngL 0 j.toNat)) r else .stuck
  | _, _ => .stuck
def hRow (k : Rho → Rs D) : D → Rho → Rs D
  | .row, r => k r
  | _, _ => .stuck
def hLc (fv : Nat → List D → Fn) (k : Nat → List D → Rs D) : Option Slot → Rs D
  | some (.val (.fnv n [])) => k n []
  | _ => .stuck
variable {σ : St} {r : Rho} {a b c e es it elt : E} {s t : S}
@[simp] theorem ev_var {i : Nat} : ev (.var i) σ r = hVar σ[i]? r := by simp only [ev]; cases h : σ[i]? with | none => rfl | some s => cases s <;> rfl
@[simp] theorem ev_own {i : Nat} : ev (.own i) σ r = hOwn σ[i]? r := by simp only [ev]; cases h : σ[i]? with | none => rfl | some s => cases s <;> rfl
@[simp] theorem ev_op {o : Op} : ev (.op o a b) σ r = (ev a σ r).bind fun x r => (ev b σ r).bind fun y r => .lift (opD o x y) r := by simp only [ev]
@[simp] theorem ev_and : ev (.and a b) σ r = (ev a σ r).bind (hAnd (ev b σ)) := by
  simp only [ev]; congr 1; funext x r; cases x <;> first | rfl | (rename_i t; cases t <;> rfl)
@[simp] theorem ev_or : ev (.or a b) σ r = (ev a σ r).bind (hOr (ev b σ)) := by
  simp only [ev]; congr 1; funext x r; cases x <;> first | rfl | (rename_i t; cases t <;> rfl)
@[simp] theorem ev_ife : ev (.ife c a b) σ r = (ev c σ r).bind (hIf (ev a σ) (ev b σ)) := by
  simp only [ev]; congr 1; funext x r; cases x <;> first | rfl | (rename_i t; cases t <;> rfl)
@[simp] theorem ev_cons : ev (.cons a es) σ r = (ev a σ r).bind fun x r => (ev es σ r).bind (hCons x) := by
  simp only [ev]; congr 1; funext x r; congr 1; funext y r; cases y <;> rfl
@[simp] theorem ev_lst : ev (.lst es) σ r = (ev es σ r).bind (hTup fun ds r => .ok (.lst ds) r) := by
  simp only [ev]; congr 1; funext x r; cases x <;> rfl
@[simp] theorem ev_dsp : ev (.dsp es) σ r = (ev es σ r).bind (hTup fun ds r => .lift (dspD ds) r) := by
  simp only [ev]; congr 1; funext x r; cases x <;> rfl
@[simp] theorem ev_call {x : Str} {g : Fn} : ev (.call x g es) σ r = (ev es σ r).bind (hTup g) := by
  simp only [ev]; congr 1; funext x r; cases x <;> rfl
@[simp] theorem ev_make {x : Str} {g : Fn} : ev (.make x g es) σ r = (ev es σ r).bind (hTup g) := by
  simp only [ev]; congr 1; funext x r; cases x <;> rfl
theorem ev_bi {k : Bi} : ev (.bi k es) σ r = (ev es σ r).bind (hTup fun ds r => .lift (biD k ds) r) := by
  simp only [ev]; congr 1; funext x r; cases x <;> rfl
@[simp] theorem ev_mt {m : Mt} : ev (.mt m a es) σ r = (ev a σ r).bind fun x r => if rcvD m x then (ev es σ r).bind (hTup fun ds r => .lift (mtD m x ds) r) else .stuck := by
  simp only [ev]; congr 1; funext x r; congr 1; congr 1; funext y r; cases y <;> rfl
@[simp] theorem ev_chain {o p : Cmp} : ev (.chain o p a b c) σ r = (ev a σ r).bind fun x r => (ev b σ r).bind fun y r => hChain (fun r => (ev c σ r).bind fun z r => .lift ((cmpD p y z).map .bl) r) (cmpD o x y) r := by
  simp only [ev]; congr 1; funext x r; congr 1; funext y r; cases cmpD o x y with | none => rfl | some t => cases t <;> rfl
@[simp] theorem ev_fld {j k : Nat} {f : Str} : ev (.fld a k j f) σ r = (ev a σ r).bind (hFld k j) := by
  simp only [ev]; congr 1; funext x r; cases x <;> rfl
theorem ev_comp {own : List (Str × Nat)} {tg : Tg} : ev (.comp own tg it none elt) σ r = (ev it σ r).bind fun x r => hOpt (fun ds => ((mapR (fun d r => hOpt (fun σ' => (ev elt σ' r).bind fun y r => .ok (some y) r) (asg tg d (killS σ (own.map (·.2))))) ds r).bind fun l r => .ok (.lst l) r).calm) (iterD x) := by
  simp only [ev]; congr 1; funext x r; cases iterD x with
  | none => rfl
  | some ds =>
    dsimp only [hOpt_some]
    congr 3; funext d r; cases asg tg d (killS σ (own.map (·.2))) <;> rfl
theorem ev_compIf {own : List (Str × Nat)} {tg : Tg} : ev (.comp own tg it (some c) elt) σ r = (ev it σ r).bind fun x r => hOpt (fun ds => ((mapR (fun d r => hOpt (fun σ' => (ev c σ' r).bind (hIf (fun r => (ev elt σ' r).bind fun y r => .ok (some y) r) (fun r => .ok none r))) (asg tg d (killS σ (own.map (·.2))))) ds r).bind fun l r => .ok (.lst l) r).calm) (iterD x) := by
  simp only [ev]; congr 1; funext x r; cases iterD x with
  | none => rfl
  | some ds =>
    dsimp only [hOpt_some]
    congr 3; funext d r; cases asg tg d (killS σ (own.map (·.2))) with
    | none => rfl
    | some σ' =>
      dsimp only [hOpt_some]
      congr 1; funext x r; cases x <;> first | rfl | (rename_i t; cases t <;> rfl)
@[simp] theorem ev_rng1 : ev (.rng1 a) σ r = (ev a σ r).bind hRng1 := by
  simp only [ev]; congr 1; funext x r; cases x <;> rfl
@[simp] theorem ev_rowix : ev (.rowix a e) σ r = (ev a σ r).bind fun x r => hRow (fun r' => (ev e σ r').bind (rowIx r.ns)) x r := by
  simp only [ev]; congr 1; funext x r; cases x <;> rfl
@[simp] theorem ev_lcall {i : Nat} {fv : Nat → List D → Fn} : ev (.lcall i fv es) σ r = hLc fv (fun n caps => (ev es σ r).bind (hTup (fv n caps))) σ[i]? := by
  simp only [ev]
  cases h : σ[i]? with
  | none => rfl
  | some s =>
    cases s with
    | val d =>
      cases d <;> first | rfl | skip
      rename_i n cs
      cases cs <;> first | rfl | skip
      show Rs.bind _ _ = Rs.bind _ _
      congr 1; funext x r; cases x <;> rfl
    | _ => rfl
@[simp] theorem ev_non : ev .non σ r = .ok .non r := by simp only [ev]
@[simp] theorem ev_bl {t : Bool} : ev (.bl t) σ r = .ok (.bl t) r := by simp only [ev]
@[simp] theorem ev_int {i : Int} : ev (.int i) σ r = .ok (.int i) r := by simp only [ev]
@[simp] theorem ev_str {x : Str} : ev (.str x) σ r = .ok (.str x) r := by simp only [ev]
@[simp] theorem ev_glob {x : Str} {d : D} : ev (.glob x d) σ r = .ok d r := by simp only [ev]
@[simp] theorem ev_neg : ev (.neg a) σ r = (ev a σ r).bind fun x r => .lift (negD x) r := by simp only [ev]
@[simp] theorem ev_not : ev (.not a) σ r = (ev a σ r).bind fun x r => .lift (notD x) r := by simp only [ev]
@[simp] theorem ev_cmp {o : Cmp} : ev (.cmp o a b) σ r = (ev a σ r).bind fun x r => (ev b σ r).bind fun y r => .lift ((cmpD o x y).map .bl) r := by simp only [ev]
@[simp] theorem ev_isin {n : Bool} : ev (.isin n a b) σ r = (ev a σ r).bind fun x r => (ev b σ r).bind fun y r => .lift ((inD x y).map fun k => .bl (k != n)) r := by simp only [ev]
@[simp] theorem ev_nil : ev .nil σ r = .ok (.tup []) r := by simp only [ev]
@[simp] theorem ev_tup : ev (.tup es) σ r = ev es σ r := by simp only [ev]
@[simp] theorem ev_ix : ev (.ix a b) σ r = (ev a σ r).bind fun x r => (ev b σ r).bind fun y r => .lift (ixD x y) r := by simp only [ev]
@[simp] theorem ev_sl00 : ev (.sl a none none) σ r = (ev a σ r).bind fun x r => .lift (slD x none none) r := by simp only [ev, Rs.bind_ok]
@[simp] theorem ev_sl10 : ev (.sl a (some b) none) σ r = (ev a σ r).bind fun x r => (ev b σ r).bind fun y r => (Rs.lift ((intD y).map some) r).bind fun l r => .lift (slD x l none) r := by
  simp only [ev, Rs.bind_ok]; congr 1; funext x r; cases ev b σ r <;> rfl
@[simp] theorem ev_sl01 : ev (.sl a none (some b)) σ r = (ev a σ r).bind fun x r => (ev b σ r).bind fun y r => (Rs.lift ((intD y).map some) r).bind fun l r => .lift (slD x none l) r := by
  simp only [ev, Rs.bind_ok]; congr 1; funext x r; cases ev b σ r <;> rfl
@[simp] theorem ev_isi {ts : List Ty} : ev (.isi a ts) σ r = (ev a σ r).bind fun x r => .lift ((tysD x ts).map .bl) r := by simp only [ev]
@[simp] theorem ev_lam {n : Nat} {ps : List Str} {g : E} : ev (.lam n ps g) σ r = .ok (.fnv n []) r := by simp only [ev]
@[simp] theorem ev_rowi {j : Nat} : ev (.rowi a j) σ r = (ev a σ r).bind (rowG j) := by simp only [ev]
@[simp] theorem ev_rowlen : ev (.rowlen a) σ r = (ev a σ r).bind rowLen := by simp only [ev]
@[simp] theorem ev_enum : ev (.enum a) σ r = (ev a σ r).bind fun x r => .lift ((seqD x).map fun ds => .lst (enumL 0 ds)) r := by simp only [ev]
@[simp] theorem ev_zip : ev (.zip a b) σ r = (ev a σ r).bind fun x r => (ev b σ r).bind fun y r => .lift ((seqD x).bind fun ds => (seqD y).map fun es => .lst (zipL ds es)) r := by simp only [ev]
/-- statements -/
def hSeq (k : St → Rho → Rs Fl) : Fl → Rho → Rs Fl
  | .nx σ, r => k σ r
  | fl, r => .ok fl r
def hApp (k : List D → Rs Fl) : Option Slot → Rs Fl
  | some (.own ds) => k ds
  | _ => .stuck
def hExt (i : Nat) (σ : St) (ds : List D) : D → Rho → Rs Fl
  | .lst es, r => if ds.length + es.length ≤ sizeLine then .ok (.nx (σ.set i (.own (ds ++ es)))) r else .stuck
  | _, _ => .stuck
def hSetO (i : Nat) (σ : St) : D → Rho → Rs Fl
  | .lst ds, r => .ok (.nx (σ.set i (.own ds))) r
  | .dic kvs, r => .ok (.nx (σ.set i (.ownd kvs))) r
  | _, _ => .stuck
def hFrz (i : Nat) (σ : St) (r : Rho) : Option Slot → Rs Fl
  | some (.own ds) => .ok (.nx (σ.set i (.val (.lst ds)))) r
  | some (.ownd kvs) => .ok (.nx (σ.set i (.val (.dic kvs)))) r
  | _ => .stuck
def hRset (σ : St) (j : Nat) : Option Slot → D → Rho → Rs Fl
  | some (.val .row), .int v, r => hOpt (fun r => .ok (.nx σ) r) (rowSet r v j)
  | _, _, _ => .stuck
@[simp] theorem evS_cons : evS (.cons s t) σ r = (evS s σ r).bind (hSeq (evS t)) := by
  simp only [evS]; congr 1; funext x r; cases x <;> rfl
@[simp] theorem evS_ifs : evS (.ifs e s t) σ r = (ev e σ r).bind (hIf (evS s σ) (evS t σ)) := by
  simp only [evS]; congr 1; funext x r; cases x <;> first | rfl | (rename_i t; cases t <;> rfl)
@[simp] theorem evS_fors {tg : Tg} {kills : List Nat} : evS (.fors tg it s kills) σ r = (ev it σ r).bind fun x r => hOpt (fun ds => forR (fun d σ r => hOpt (fun σ' => evS s σ' r) (asg tg d σ)) kills ds σ r) (iterD x) := by
  simp only [evS]; congr 1; funext x r; cases iterD x with
  | none => rfl
  | some ds =>
    dsimp only [hOpt_some]
    congr 1; funext d σ r; cases asg tg d σ <;> rfl
@[simp] theorem evS_app {i : Nat} : evS (.app i e) σ r = hApp (fun ds => (ev e σ r).bind fun d r => if ds.length < sizeLine then .ok (.nx (σ.set i (.own (ds ++ [d])))) r else .stuck) σ[i]? := by
  simp only [evS]; cases σ[i]? with | none => rfl | some s => cases s <;> rfl
@[simp] theorem evS_ext {i : Nat} : evS (.ext i e) σ r = hApp (fun ds => (ev e σ r).bind (hExt i σ ds)) σ[i]? := by
  simp only [evS]; cases σ[i]? with
  | none => rfl
  | some s =>
    cases s with
    | own ds => show Rs.bind _ _ = Rs.bind _ _; congr 1; funext x r; cases x <;> rfl
    | _ => rfl
@[simp] theorem evS_setO {i : Nat} : evS (.setO i e) σ r = (ev e σ r).bind (hSetO i σ) := by
  simp only [evS]; congr 1; funext x r; cases x <;> rfl
@[simp] theorem evS_setT {own : List (Nat × Bool)} : evS (.setT own es) σ r = (ev es σ r).bind (hTup fun ds r => .lift ((setTs σ own ds).map .nx) r) := by
  simp only [evS]; congr 1; funext x r; cases x <;> rfl
@[simp] theorem evS_frz {i : Nat} : evS (.frz i) σ r = hFrz i σ r σ[i]? := by
  simp only [evS]; cases σ[i]? with | none => rfl | some s => cases s <;> rfl
@[simp] theorem evS_rowset {i j : Nat} : evS (.rowset i j e) σ r = (ev e σ r).bind fun d r => hRset σ j σ[i]? d r := by
  simp only [evS]; congr 1; funext d r
  cases σ[i]? with
  | none => rfl
  | some s =>
    cases s with
    | val v =>
      cases v <;> first | rfl | skip
      cases d <;> first | rfl | skip
      rename_i v
      dsimp only [hRset]
      cases rowSet r v j <;> rfl
    | _ => rfl
@[simp] theorem evS_nil : evS .nil σ r = .ok (.nx σ) r := by simp only [evS]
@[simp] theorem evS_skip : evS .skip σ r = .ok (.nx σ) r := by simp only [evS]
@[simp] theorem evS_set {tg : Tg} : evS (.set tg e) σ r = (ev e σ r).bind fun d r => .lift ((asg tg d σ).map .nx) r := by simp only [evS]
@[simp] theorem evS_expr : evS (.expr e) σ r = (ev e σ r).bind fun _ r => .ok (.nx σ) r := by simp only [evS]
@[simp] theorem evS_ret : evS (.ret e) σ r = (ev e σ r).bind fun d r => .ok (.ret d) r := by simp only [evS]
@[simp] theorem evS_retN : evS .retN σ r = .ok (.ret .non) r := by simp only [evS]
@[simp] theorem evS_kill {is : List Nat} : evS (.kill is) σ r = .ok (.nx (killS σ is)) r := by simp only [evS]
@[simp] theorem ev_len : ev (.bi .len es) σ r = (ev es σ r).bind (hTup fun ds r => .lift (biD .len ds) r) := ev_bi
@[simp] theorem ev_list : ev (.bi .list es) σ r = (ev es σ r).bind (hTup fun ds r => .lift (biD .list ds) r) := ev_bi
@[simp] theorem ev_tuple : ev (.bi .tuple es) σ r = (ev es σ r).bind (hTup fun ds r => .lift (biD .tuple ds) r) := ev_bi
@[simp] theorem ev_sorted : ev (.bi .sorted es) σ r = (ev es σ r).bind (hTup fun ds r => .lift (biD .sorted ds) r) := ev_bi
@[simp] theorem ev_lenset : ev (.bi .lenset es) σ r = (ev es σ r).bind (hTup fun ds r => .lift (biD .lenset ds) r) := ev_bi
@[simp] theorem ev_intf : ev (.bi .int es) σ r = (ev es σ r).bind (hTup fun ds r => .lift (biD .int ds) r) := ev_bi
@[simp] theorem if_bl {p : Prop} [Decidable p] {x y : Bool} : (if p then Rs.ok (D.bl x) r else Rs.ok (D.bl y) r) = .ok (.bl (if p then x else y)) r := by split <;> rfl
def hEnd : Fl → Rho → Rs D
  | .nx _, r => .ok .non r
  | .ret d, r => .ok d r
  | _, _ => .stuck
theorem runF_eq {n m : Nat} {ds : List D} : runF n m s ds r = if ds.length = m then (evS s (startD n ds) r).bind hEnd else .stuck := by
  unfold runF; congr 1; congr 1; funext x r; cases x <;> rfl
def hMe (c nf : Nat) : Fl → Rho → Rs D
  | .nx (.me c' fs :: _), r => if c' = c ∧ fs.length = nf then .ok (.obj c fs) r else .stuck
  | _, _ => .stuck
theorem runI_eq {c nf n m : Nat} {ds : List D} : runI c nf n m s ds r = if ds.length + 1 = m then (evS s (.me c [] :: startD (n - 1) ds) r).bind (hMe c nf) else .stuck := by
  unfold runI; congr 1; congr 1; funext x r; cases x with
  | nx σ =>
    cases σ with
    | nil => rfl
    | cons u σ => cases u <;> rfl
  | _ => rfl
def hFset (σ : St) (c j : Nat) (d : D) (r : Rho) : Option Slot → Rs Fl
  | some (.me c' ds) => if c' = c ∧ ds.length = j then .ok (.nx (σ.set 0 (.me c (ds ++ [d])))) r else .stuck
  | _ => .stuck
def hFsets (σ : St) (c j n : Nat) (r : Rho) : Option Slot → D → Rs Fl
  | some (.me c' ds), .tup es => if c' = c ∧ ds.length = j ∧ es.length = n then .ok (.nx (σ.set 0 (.me c (ds ++ es)))) r else .stuck
  | _, _ => .stuck
@[simp] theorem evS_fset {c j : Nat} {f : Str} : evS (.fset c j f e) σ r = (ev e σ r).bind fun d r => hFset σ c j d r σ[(0 : Nat)]? := by
  simp only [evS]; rfl
@[simp] theorem evS_fsets {c j : Nat} {fs : List Str} : evS (.fsets c j fs e) σ r = (ev e σ r).bind fun d r => hFsets σ c j fs.length r σ[(0 : Nat)]? d := by
  simp only [evS]; rfl
@[simp] theorem hMe_nx {c nf : Nat} {fs : List D} {u : List Slot} : hMe c nf (.nx (.me c fs :: u)) r = if fs.length = nf then .ok (.obj c fs) r else .stuck := by simp [hMe]
@[simp] theorem hFset_me {c j : Nat} {d : D} {ds : List D} : hFset σ c j d r (some (.me c ds)) = if ds.length = j then .ok (.nx (σ.set 0 (.me c (ds ++ [d])))) r else .stuck := by simp [hFset]
@[simp] theorem hFsets_me {c j n : Nat} {ds es : List D} : hFsets σ c j n r (some (.me c ds)) (.tup es) = if ds.length = j ∧ es.length = n then .ok (.nx (σ.set 0 (.me c (ds ++ es)))) r else .stuck := by simp [hFsets]
@[simp] theorem hVar_val {d : D} : hVar (some (.val d)) r = .ok d r := rfl
@[simp] theorem hOwn_own {ds : List D} : hOwn (some (.own ds)) r = .ok (.lst ds) r := rfl
@[simp] theorem hAnd_bl {k : Rho → Rs D} {t : Bool} : hAnd k (.bl t) r = if t = true then k r else .ok (.bl false) r := by cases t <;> rfl
@[simp] theorem hOr_bl {k : Rho → Rs D} {t : Bool} : hOr k (.bl t) r = if t = true then .ok (.bl true) r else k r := by cases t <;> rfl
@[simp] theorem hIf_bl {α : Type} {k l : Rho → Rs α} {t : Bool} : hIf k l (.bl t) r = if t = true then k r else l r := by cases t <;> rfl
@[simp] theorem hCons_tup {x : D} {ds : List D} : hCons x (.tup ds) r = .ok (.tup (x :: ds)) r := rfl
@[simp] theorem hTup_tup {α : Type} {k : List D → Rho → Rs α} {ds : List D} : hTup k (.tup ds) r = k ds r := rfl
@[simp] theorem hChain_some {k : Rho → Rs D} {t : Bool} : hChain k (some t) r = if t = true then k r else .ok (.bl false) r := by cases t <;> rfl
@[simp] theorem hFld_obj {c j : Nat} {ds : List D} : hFld c j (.obj c ds) r = .lift ds[j]? r := by simp [hFld]
@[simp] theorem hRng1_int {j : Int} : hRng1 (.int j) r = if -(2 ^ 62) ≤ j ∧ j ≤ 16000000 then .ok (.lst (rngL 0 j.toNat)) r else .stuck := rfl
@[simp] theorem hRow_row {k : Rho → Rs D} : hRow k .row r = k r := rfl
@[simp] theorem hLc_fnv {fv : Nat → List D → Fn} {k : Nat → List D → Rs D} {n : Nat} : hLc fv k (some (.val (.fnv n []))) = k n [] := rfl
@[simp] theorem hSeq_nx {k : St → Rho → Rs Fl} : hSeq k (.nx σ) r = k σ r := rfl
@[simp] theorem hSeq_ret {k : St → Rho → Rs Fl} {d : D} : hSeq k (.ret d) r = .ok (.ret d) r := rfl
@[simp] theorem hApp_own {k : List D → Rs Fl} {ds : List D} : hApp k (some (.own ds)) = k ds := rfl
@[simp] theorem hExt_lst {i : Nat} {ds es : List D} : hExt i σ ds (.lst es) r = if ds.length + es.length ≤ sizeLine then .ok (.nx (σ.set i (.own (ds ++ es)))) r else .stuck := rfl
@[simp] theorem hSetO_lst {i : Nat} {ds : List D} : hSetO i σ (.lst ds) r = .ok (.nx (σ.set i (.own ds))) r := rfl
@[simp] theorem hFrz_own {i : Nat} {ds : List D} : hFrz i σ r (some (.own ds)) = .ok (.nx (σ.set i (.val (.lst ds)))) r := rfl
@[simp] theorem hRset_row {j : Nat} {v : Int} : hRset σ j (some (.val .row)) (.int v) r = hOpt (fun r => .ok (.nx σ) r) (rowSet r v j) := rfl
@[simp] theorem hEnd_nx : hEnd (.nx σ) r = .ok .non r := rfl
@[simp] theorem hEnd_ret {d : D} : hEnd (.ret d) r = .ok d r := rfl
/-! ### operations -/
@[simp] theorem biD_len_str {x : Str} : biD .len [.str x] = some (.int x.length) := rfl
@[simp] theorem biD_len_tup {ds : List D} : biD .len [.tup ds] = some (.int ds.length) := rfl
@[simp] theorem biD_len_lst {ds : List D} : biD .len [.lst ds] = some (.int ds.length) := rfl
@[simp] theorem biD_list_tup {ds : List D} : biD .list [.tup ds] = some (.lst ds) := rfl
@[simp] theorem biD_list_lst {ds : List D} : biD .list [.lst ds] = some (.lst ds) := rfl
@[simp] theorem biD_tuple_tup {ds : List D} : biD .tuple [.tup ds] = some (.tup ds) := rfl
@[simp] theorem biD_tuple_lst {ds : List D} : biD .tuple [.lst ds] = some (.tup ds) := rfl
@[simp] theorem biD_int {i : Int} : biD .int [.int i] = some (.int i) := rfl
@[simp] theorem notD_bl {t : Bool} : notD (.bl t) = some (.bl (!t)) := rfl
@[simp] theorem negD_int {i : Int} : negD (.int i) = some (.int (-i)) := rfl
@[simp] theorem cmpD_le {i j : Int} : cmpD .le (.int i) (.int j) = some (decide (i ≤ j)) := rfl
@[simp] theorem cmpD_ge {i j : Int} : cmpD .ge (.int i) (.int j) = some (decide (j ≤ i)) := rfl
@[simp] theorem cmpD_gt {i j : Int} : cmpD .gt (.int i) (.int j) = some (decide (j < i)) := rfl
@[simp] theorem cmpD_lt {i j : Int} : cmpD .lt (.int i) (.int j) = some (decide (i < j)) := rfl
@[simp] theorem cmpD_eq_int {i j : Int} : cmpD .eq (.int i) (.int j) = some (decide (i = j)) := by simp [cmpD, pureD]
@[simp] theorem cmpD_ne_int {i j : Int} : cmpD .ne (.int i) (.int j) = some (!decide (i = j)) := by simp [cmpD, pureD]
@[simp] theorem cmpD_eq_str {i j : Str} : cmpD .eq (.str i) (.str j) = some (decide (i = j)) := by simp [cmpD, pureD]
@[simp] theorem cmpD_ne_str {i j : Str} : cmpD .ne (.str i) (.str j) = some (!decide (i = j)) := by simp [cmpD, pureD]
@[simp] theorem opD_add {i j : Int} : opD .add (.int i) (.int j) = some (.int (i + j)) := rfl
@[simp] theorem opD_sub {i j : Int} : opD .sub (.int i) (.int j) = some (.int (i - j)) := rfl
theorem opD_addT {x y : List D} (h : x.length + y.length ≤ sizeLine) : opD .add (.tup x) (.tup y) = some (.tup (x ++ y)) := if_pos h
theorem opD_addL {x y : List D} (h : x.length + y.length ≤ sizeLine) : opD .add (.lst x) (.lst y) = some (.lst (x ++ y)) := if_pos h
theorem opD_mod {i j : Int} (h : 0 < j) : opD .mod (.int i) (.int j) = some (.int (i % j)) := if_pos h
theorem opD_fdiv {i j : Int} (h : 0 < j ∧ j < 1073741824) : opD .fdiv (.int i) (.int j) = some (.int (i / j)) := if_pos h
theorem opD_mul {i j : Int} (h : -(2 ^ 64) < j ∧ j < 2 ^ 64) : opD .mul (.int i) (.int j) = some (.int (i * j)) := if_pos (.inr h)
@[simp] theorem ixD_tup {ds : List D} {i : Int} : ixD (.tup ds) (.int i) = (ixN ds.length i).bind fun j => ds[j]? := rfl
@[simp] theorem ixD_lst {ds : List D} {i : Int} : ixD (.lst ds) (.int i) = (ixN ds.length i).bind fun j => ds[j]? := rfl
theorem ixN_pos {n : Nat} {i : Int} (h : 0 ≤ i) (h2 : i < n) : ixN n i = some i.toNat := by unfold ixN; rw [if_pos h, if_pos h2]
@[simp] theorem iterD_tup {ds : List D} : iterD (.tup ds) = some ds := rfl
@[simp] theorem iterD_lst {ds : List D} : iterD (.lst ds) = some ds := rfl
@[simp] theorem iterD_str {x : Str} : iterD (.str x) = some (x.cps.toList.map fun c => .str ⟨#[c]⟩) := rfl
@[simp] theorem seqD_tup {ds : List D} : seqD (.tup ds) = some ds := rfl
@[simp] theorem seqD_lst {ds : List D} : seqD (.lst ds) = some ds := rfl
@[simp] theorem inD_str {x y : Str} (h : x.length = 1) : inD (.str x) (.str y) = some (decide (x.cps.getD 0 0 ∈ y.cps.toList)) := if_pos h
@[simp] theorem asg_nm {i : Nat} {d : D} : asg (.nm i) d σ = some (σ.set i (.val d)) := by simp only [asg]
@[simp] theorem asg_tup {ts : Tg} {ds : List D} : asg (.tup ts) (.tup ds) σ = asgs ts ds σ := by simp only [asg]
@[simp] theorem asgs_cons {t ts : Tg} {d : D} {ds : List D} : asgs (.cons t ts) (d :: ds) σ = (asg t d σ).bind fun σ' => asgs ts ds σ' := by simp only [asgs]
@[simp] theorem asgs_nil : asgs .nil [] σ = some σ := by simp only [asgs]
@[simp] theorem killS_nil : killS σ [] = σ := rfl
@[simp] theorem killS_cons {i : Nat} {is : List Nat} : killS σ (i :: is) = killS (σ.set i .un) is := rfl
@[simp] theorem tys_nil {d : D} : tysD d [] = some false := rfl
@[simp] theorem rowG_row {j : Nat} : rowG j .row r = .lift ((rowI r j).map .int) r := rfl
@[simp] theorem rowLen_row : rowLen .row r = .ok (.int r.ns.length) r := rfl
@[simp] theorem rowIx_int {ns : List Int} {i : Int} : rowIx ns (.int i) r = .lift ((ixN ns.length i).bind fun m => (ns[m]?).map .int) r := rfl
@[simp] theorem intD_int {i : Int} : intD (.int i) = some i := rfl
@[simp] theorem slD_tup {ds : List D} {l h : Option Int} : slD (.tup ds) l h = some (.tup (cutL ds l h)) := rfl
@[simp] theorem slD_lst {ds : List D} {l h : Option Int} : slD (.lst ds) l h = some (.lst (cutL ds l h)) := rfl
@[simp] theorem tyD_int {i : Int} {t : Ty} : tyD (.int i) t = some (decide (t = .int)) := rfl
@[simp] theorem tyD_str {x : Str} {t : Ty} : tyD (.str x) t = some (decide (t = .str)) := rfl
@[simp] theorem tyD_tup {x : List D} {t : Ty} : tyD (.tup x) t = some (decide (t = .tuple)) := rfl
@[simp] theorem tyD_lst {x : List D} {t : Ty} : tyD (.lst x) t = some (decide (t = .list)) := rfl
@[simp] theorem tyD_bl {x : Bool} {t : Ty} : tyD (.bl x) t = some (decide (t = .bool ∨ t = .int)) := rfl
@[simp] theorem tysD_cons {d : D} {t : Ty} {ts : List Ty} : tysD d (t :: ts) = (tyD d t).bind fun b => if b then some true else tysD d ts := rfl
@[simp] theorem lift_map_some {α β : Type} {x : α} {f : α → β} {r : Rho} : Rs.lift ((some x).map f) r = .ok (f x) r := rfl
theorem if_ok {α : Type} {p : Prop} [Decidable p] {x y : α} {r : Rho} : (if p then Rs.ok x r else Rs.ok y r) = .ok (if p then x else y) r := by split <;> rfl
theorem bind_if {α β : Type} {p : Prop} [Decidable p] {x y : Rs α} {f : α → Rho → Rs β} : (if p then x else y).bind f = if p then x.bind f else y.bind f := by split <;> rfl
theorem bools_map {α : Type} {l : List α} {f : α → Bool} : bools (l.map fun x => .bl (f x)) = some (l.map f) := by
  induction l with
  | nil => rfl
  | cons x l ih => simp [bools, ih]
@[simp] theorem biD_all {α : Type} {l : List α} {f : α → Bool} : biD .all [.lst (l.map fun x => .bl (f x))] = some (.bl (l.all f)) := by
  show (bools _).map _ = _
  rw [bools_map]; simp [List.all_map]
theorem strsD_map {l : List Str} : strsD (l.map .str) = some l := by
  induction l with
  | nil => rfl
  | cons x l ih => simp [strsD, ih]
theorem filterMap_some {α β : Type} {l : List α} {f : α → β} : l.filterMap (fun x => some (f x)) = l.map f := by
  induction l with
  | nil => rfl
  | cons x l ih => simp [ih]
/-- a list made from another without change of the row -/
theorem comp_pure {own : List (Str × Nat)} {tg : Tg} {ds : List D} {g : D → D} (hi : ∃ x, ev it σ r = .ok x r ∧ iterD x = some ds) (h : ∀ d ∈ ds, ∃ σ', asg tg d (killS σ (own.map (·.2))) = some σ' ∧ ev elt σ' r = .ok (g d) r) : ev (.comp own tg it none elt) σ r = .ok (.lst (ds.map g)) r := by
  obtain ⟨x, h1, h2⟩ := hi
  rw [ev_comp, h1, Rs.bind_ok, h2, hOpt_some, mapR_pure (g := fun d => some (g d)), Rs.bind_ok, filterMap_some]
  · rfl
  · intro d hd
    obtain ⟨σ', e1, e2⟩ := h d hd
    rw [e1, hOpt_some, e2]; rfl
theorem compIf_pure {own : List (Str × Nat)} {tg : Tg} {ds : List D} {p : D → Bool} {g : D → D} (hi : ∃ x, ev it σ r = .ok x r ∧ iterD x = some ds) (h : ∀ d ∈ ds, ∃ σ', asg tg d (killS σ (own.map (·.2))) = some σ' ∧ ev c σ' r = .ok (.bl (p d)) r ∧ (p d = true → ev elt σ' r = .ok (g d) r)) :
    ev (.comp own tg it (some c) elt) σ r = .ok (.lst ((ds.filter p).map g)) r := by
  obtain ⟨x, h1, h2⟩ := hi
  rw [ev_compIf, h1, Rs.bind_ok, h2, hOpt_some, mapR_pure (g := fun d => if p d = true then some (g d) else none), Rs.bind_ok]
  · show Rs.ok (D.lst _) r = _
    congr 2
    clear h h2
    induction ds with
    | nil => rfl
    | cons d ds ih =>
      rw [List.filterMap_cons, List.filter_cons]
      by_cases hp : p d = true
      · rw [if_pos hp, if_pos hp, List.map_cons, ih]
      · rw [if_neg hp, if_neg hp, ih]
  · intro d hd
    obtain ⟨σ', e1, e2, e3⟩ := h d hd
    rw [e1, hOpt_some, e2, Rs.bind_ok, hIf_bl]
    by_cases hp : p d = true
    · rw [if_pos hp, if_pos hp, e3 hp]; rfl
    · rw [if_neg hp, if_neg hp]
/-- all([.. for ..]), all of them true -/
theorem all_comp {own : List (Str × Nat)} {tg : Tg} {ds : List D} (x : D) (hi : ev it σ r = .ok x r) (hx : iterD x = some ds) (h : ∀ d ∈ ds, ∃ σ', asg tg d (killS σ (own.map (·.2))) = some σ' ∧ ev elt σ' r = .ok (.bl true) r) : ev (.bi .all (.cons (.comp own tg it none elt) .nil)) σ r = .ok (.bl true) r := by
  rw [ev_bi, ev_cons, comp_pure (g := fun _ => .bl true) ⟨x, hi, hx⟩ h, Rs.bind_ok, ev_nil, Rs.bind_ok, hCons_tup, Rs.bind_ok, hTup_tup]
  have : biD .all [.lst (ds.map fun _ => D.bl true)] = some (.bl true) := by
    rw [biD_all (f := fun _ => true)]
    simp
  rw [this]; rfl
theorem comp_wp {own : List (Str × Nat)} {tg : Tg} {ds : List D} {x : D} {I : Rho → Prop} {P : D → Prop} {Q : D → Rho → Prop} (hi : ev it σ r = .ok x r) (hx : iterD x = some ds) (hr : I r)
    (h : ∀ d ∈ ds, ∀ r, I r → ∃ σ', asg tg d (killS σ (own.map (·.2))) = some σ' ∧ Wp (ev elt σ' r) fun y r' => I r' ∧ P y) (q : ∀ l r', I r' → l.length = ds.length → (∀ x ∈ l, P x) → Q (.lst l) r') : Wp (ev (.comp own tg it none elt) σ r) Q := by
  rw [ev_comp, hi, Rs.bind_ok, hx, hOpt_some, Wp_calm, Wp_bind]
  refine (mapR_wp (I := I) (P := P) hr fun d hd r hr => ?_).mono fun l r' ⟨h1, h2, h3⟩ => q l r' h1 h2 h3
  obtain ⟨σ', e1, e2⟩ := h d hd r hr
  rw [e1, hOpt_some, Wp_bind]
  exact e2.mono fun y r' ⟨a, b⟩ => ⟨a, y, rfl, b⟩
/-! ### texts in lists -/
theorem pureL_strs {n : Nat} : ∀ xs : List Str, pureL n (xs.map .str) = true
  | [] => rfl
  | x :: xs => by simp [pureL, pureD, pureL_strs xs]
theorem inL_strs {x : Str} : ∀ xs : List Str, inL (.str x) (xs.map .str) = decide (x ∈ xs)
  | [] => by simp [inL]
  | y :: ys => by
    simp only [List.map_cons, inL, inL_strs ys, eqD_str, List.mem_cons]
    by_cases h : y = x
    · simp [h]
    · have : ¬ x = y := fun e => h e.symm
      simp [h, this]
@[simp] theorem inD_strsL {x : Str} {xs : List Str} : inD (.str x) (.lst (xs.map .str)) = some (decide (x ∈ xs)) := by
  show (if pureD 50 (D.str x) && pureL 50 (xs.map .str) then some (inL (.str x) (xs.map .str)) else none) = _
  rw [pureL_strs, inL_strs, if_pos (by rfl)]
theorem flat_strs (xs : List Str) : (xs.map D.str).all flatD = true := by
  induction xs with
  | nil => rfl
  | cons x xs ih => simp [flatD]
@[simp] theorem inD_strsT {x : Str} {xs : List Str} : inD (.str x) (.tup (xs.map .str)) = some (decide (x ∈ xs)) := by
  show (if flatD (D.str x) && (xs.map D.str).all flatD then some (inL (.str x) (xs.map .str)) else none) = _
  rw [flat_strs, inL_strs, if_pos (by rfl)]
@[simp] theorem cmpD_isnt : cmpD .isnt .non .non = some false := rfl
@[simp] theorem cmpD_is : cmpD .is .non .non = some true := rfl
/-- a comprehension's elements by a function -/
theorem comp_as {α : Type} {own : List (Str × Nat)} {tg : Tg} {as : List α} {f g : α → D} (x : D) (hi : ev it σ r = .ok x r) (hx : iterD x = some (as.map f)) (h : ∀ a ∈ as, ∃ σ', asg tg (f a) (killS σ (own.map (·.2))) = some σ' ∧ ev elt σ' r = .ok (g a) r) : ev (.comp own tg it none elt) σ r = .ok (.lst (as.map g)) r := by
  rw [ev_comp, hi, Rs.bind_ok, hx, hOpt_some]
  have : ∀ l : List α, (∀ a ∈ l, a ∈ as) → mapR (fun d r => hOpt (fun σ' => (ev elt σ' r).bind fun y r => .ok (some y) r) (asg tg d (killS σ (own.map (·.2))))) (l.map f) r = .ok (l.map g) r := by
    intro l hl
    induction l with
    | nil => rfl
    | cons a l ih =>
      obtain ⟨σ', e1, e2⟩ := h a (hl a (List.mem_cons_self ..))
      rw [List.map_cons, mapR, e1, hOpt_some, e2, Rs.bind_ok, Rs.bind_ok, ih fun b hb => hl b (List.mem_cons_of_mem _ hb)]
      rfl
  rw [this as fun a ha => ha]
  rfl
theorem compIf_as {α : Type} {own : List (Str × Nat)} {tg : Tg} {as : List α} {f g : α → D} {p : α → Bool} (x : D) (hi : ev it σ r = .ok x r) (hx : iterD x = some (as.map f)) (h : ∀ a ∈ as, ∃ σ', asg tg (f a) (killS σ (own.map (·.2))) = some σ' ∧ ev c σ' r = .ok (.bl (p a)) r ∧ (p a = true → ev elt σ' r = .ok (g a) r)) :
    ev (.comp own tg it (some c) elt) σ r = .ok (.lst ((as.filter p).map g)) r := by
  rw [ev_compIf, hi, Rs.bind_ok, hx, hOpt_some]
  have : ∀ l : List α, (∀ a ∈ l, a ∈ as) → mapR (fun d r => hOpt (fun σ' => (ev c σ' r).bind (hIf (fun r => (ev elt σ' r).bind fun y r => .ok (some y) r) (fun r => .ok none r))) (asg tg d (killS σ (own.map (·.2))))) (l.map f) r = .ok ((l.filter p).map g) r := by
    intro l hl
    induction l with
    | nil => rfl
    | cons a l ih =>
      obtain ⟨σ', e1, e2, e3⟩ := h a (hl a (List.mem_cons_self ..))
      rw [List.map_cons, mapR, e1, hOpt_some, e2, Rs.bind_ok, hIf_bl, List.filter_cons]
      have ih := ih fun b hb => hl b (List.mem_cons_of_mem _ hb)
      by_cases hp : p a = true
      · rw [if_pos hp, if_pos hp, e3 hp, Rs.bind_ok, Rs.bind_ok, ih]; rfl
      · rw [if_neg hp, if_neg hp, Rs.bind_ok, ih]; rfl
  rw [this as fun a ha => ha]
  rfl
end DQ
set_option linter.all false
set_option maxRecDepth 100000
/-! Q1: texts: their signs, their repr, what split gives. -/
namespace DQ
open PySem DI PySem.Builtin.Str
/-! ### all signs of a text keep a rule -/
def All (P : Nat → Prop) (x : Str) : Prop := ∀ c ∈ x.cps.toList, P c
theorem app_cps (x y : Str) : (x ++ y).cps.toList = x.cps.toList ++ y.cps.toList := by
  show (x.cps ++ y.cps).toList = _
  rw [Array.toList_append]
theorem All.app {P : Nat → Prop} {x y : Str} (hx : All P x) (hy : All P y) : All P (x ++ y) := fun c hc => by
  rw [app_cps] at hc
  rcases List.mem_append.mp hc with h | h
  · exact hx c h
  · exact hy c h
theorem All.mono {P Q : Nat → Prop} {x : Str} (h : All P x) (i : ∀ c, P c → Q c) : All Q x := fun c hc => i c (h c hc)
theorem All.nil {P : Nat → Prop} : All P "" := fun c hc => by cases hc
theorem All.join {P : Nat → Prop} {s : Str} (hs : All P s) : ∀ {xs : List Str}, (∀ x ∈ xs, All P x) → All P (Str.join s xs)
  | [], _ => All.nil
  | [x], h => h x (List.mem_singleton.mpr rfl)
  | x :: y :: r, h => by
    show All P (x ++ s ++ Str.join s (y :: r))
    exact ((h x (List.mem_cons_self ..)).app hs).app (All.join hs fun z hz => h z (List.mem_cons_of_mem _ hz))
theorem All.of_list {P : Nat → Prop} {x : Str} {l : List Nat} (h : All P x) (hl : ∀ c ∈ l, c ∈ x.cps.toList) : All P ⟨l.toArray⟩ := fun c hc => h c (hl c (by simpa using hc))
def Vd (c : Nat) : Prop := c < 0x110000
theorem strOk_iff {x : Str} : PyData.strOk x = true ↔ All Vd x := by
  unfold PyData.strOk
  rw [Array.all_eq_true_iff_forall_mem]
  exact ⟨fun h c hc => (show c < 0x110000 from of_decide_eq_true (h c (Array.mem_toList_iff.mp hc))), fun h c hc => decide_eq_true (show c < 0x110000 from h c (Array.mem_toList_iff.mpr hc))⟩
theorem vd_str (s : String) : All Vd (s : Str) := fun c hc => by
  have e : (s : Str) = ⟨(s.toList.map Char.toNat).toArray⟩ := Str.ofString_eq_toList s
  rw [e] at hc
  obtain ⟨d, _, rfl⟩ := List.mem_map.mp (by simpa using hc : c ∈ s.toList.map Char.toNat)
  have := d.valid
  show d.toNat < 1114112
  rcases this with h | ⟨_, h⟩
  · have h2 : d.toNat < 55296 := h
    omega
  · exact h
theorem vd_chr (d : Char) : Vd d.toNat := by
  rcases d.valid with h | ⟨_, h⟩
  · have h2 : d.toNat < 55296 := h
    show d.toNat < 1114112
    omega
  · exact h
theorem vd_reprChar {q c : Nat} (hc : Vd c) : ∀ z ∈ reprChar q c, Vd z := by
  have hx : ∀ w : Nat, ∀ z ∈ (List.replicate (w - ((Nat.toDigits 16 c).map Char.toNat).length) 48 ++ (Nat.toDigits 16 c).map Char.toNat), Vd z := fun w z hz => by
    rcases List.mem_append.mp hz with h | h
    · rw [(List.mem_replicate.mp h).2]; show (48 : Nat) < 1114112; omega
    · obtain ⟨d, _, rfl⟩ := List.mem_map.mp h
      exact vd_chr d
  have n : ∀ k : Nat, k < 1114112 → Vd k := fun k h => h
  intro z hz
  unfold reprChar at hz
  dsimp only at hz
  split at hz
  · simp only [List.mem_cons, List.not_mem_nil, or_false] at hz
    rcases hz with rfl | rfl
    · exact n _ (by omega)
    · exact hc
  split at hz
  · simp only [List.mem_cons, List.not_mem_nil, or_false] at hz
    rcases hz with rfl | rfl <;> exact n _ (by omega)
  split at hz
  · simp only [List.mem_cons, List.not_mem_nil, or_false] at hz
    rcases hz with rfl | rfl <;> exact n _ (by omega)
  split at hz
  · simp only [List.mem_cons, List.not_mem_nil, or_false] at hz
    rcases hz with rfl | rfl <;> exact n _ (by omega)
  split at hz
  · simp only [List.mem_cons, List.not_mem_nil, or_false] at hz
    rw [hz]; exact hc
  split at hz
  · rcases List.mem_append.mp hz with h | h
    · simp only [List.mem_cons, List.not_mem_nil, or_false] at h
      rcases h with rfl | rfl <;> exact n _ (by omega)
    · exact hx _ z h
  split at hz
  · rcases List.mem_append.mp hz with h | h
    · simp only [List.mem_cons, List.not_mem_nil, or_false] at h
      rcases h with rfl | rfl <;> exact n _ (by omega)
    · exact hx _ z h
  · rcases List.mem_append.mp hz with h | h
    · simp only [List.mem_cons, List.not_mem_nil, or_false] at h
      rcases h with rfl | rfl <;> exact n _ (by omega)
    · exact hx _ z h
theorem vd_quote (x : Str) : Vd (reprQuote x) := by
  unfold reprQuote
  split <;> (show (_ : Nat) < 1114112) <;> omega
theorem vd_fold (q : Nat) : ∀ (l : List Nat) (acc : Array Nat), (∀ c ∈ acc.toList, Vd c) → (∀ c ∈ l, Vd c) → ∀ c ∈ (l.foldl (fun out c => out ++ (reprChar q c).toArray) acc).toList, Vd c
  | [], acc, h, _ => h
  | d :: l, acc, h, hl => by
    refine vd_fold q l _ (fun c hc => ?_) fun c hc => hl c (List.mem_cons_of_mem _ hc)
    rw [Array.toList_append] at hc
    rcases List.mem_append.mp hc with h1 | h1
    · exact h c h1
    · exact vd_reprChar (hl d (List.mem_cons_self ..)) c (by simpa using h1)
theorem vd_repr {x : Str} (h : All Vd x) : All Vd (reprText x) := fun c hc => by
  unfold reprText at hc
  rw [Array.toList_push, ← Array.foldl_toList] at hc
  rcases List.mem_append.mp hc with h1 | h1
  · exact vd_fold _ _ _ (fun c hc => by
      have : c = reprQuote x := by simpa using hc
      rw [this]; exact vd_quote x) h c h1
  · rw [List.mem_singleton.mp h1]; exact vd_quote x
theorem vd_from : ∀ (ts : List Str) (k : Nat) (acc : Str), All Vd acc → (∀ t ∈ ts, All Vd t) → All Vd (textFrom k acc ts)
  | [], k, acc, h, _ => h
  | t :: r, k, acc, h, hr => by
    refine vd_from r (k + 1) _ ((h.app (vd_str _)).app (hr t (List.mem_cons_self ..))) fun z hz => hr z (List.mem_cons_of_mem _ hz)
/-! ### data that can be told by repr -/
mutual
def dOk : D → Bool
  | .non => true | .bl _ => true
  | .int i => decide (i.natAbs < 10 ^ 12)
  | .str x => PyData.strOk x
  | .tup ds => dOkL ds
  | .lst ds => dOkL ds
  | _ => false
def dOkL : List D → Bool
  | [] => true
  | d :: r => dOk d && dOkL r
end
theorem small_log {n : Nat} (h : n < 10 ^ 12) : n.log2 < 1920 := by
  have h1 : n < 2 ^ 64 := by have : (10 : Nat) ^ 12 < 2 ^ 64 := by decide
                             omega
  by_cases z : n = 0
  · subst z; decide
  · have := (Nat.log2_lt z).mpr h1
    omega
mutual
theorem dOk_facts : ∀ d : D, dOk d = true → (toPy d).canLay0 = true ∧ (toPy d).showable = true ∧ (toPy d).intsShort 13 = true ∧ All Vd (toPy d).shown
  | .non, _ => by
    simp only [toPy, PyData.canLay0, PyData.showable, PyData.intsShort, PyData.shown, true_and]
    exact vd_str _
  | .bl b, _ => by
    simp only [toPy, PyData.canLay0, PyData.showable, PyData.intsShort, PyData.shown, true_and]
    cases b <;> exact vd_str _
  | .int i, h => by
    have h : i.natAbs < 10 ^ 12 := by simpa only [dOk, decide_eq_true_eq] using h
    have h1 := PyData.shown_int_le h
    have h2 := small_log h
    simp only [PyData.shown] at h1
    simp only [toPy, PyData.canLay0, PyData.showable, PyData.intsShort, PyData.shown, true_and, decide_eq_true_eq]
    exact ⟨h2, decide_eq_true h1, vd_str _⟩
  | .str x, h => by
    have h : PyData.strOk x = true := by simpa only [dOk] using h
    simp only [toPy, PyData.canLay0, PyData.showable, PyData.intsShort, PyData.shown, true_and]
    exact ⟨h, vd_repr (strOk_iff.mp h)⟩
  | .tup ds, h => by
    obtain ⟨h1, h2, h3, h4⟩ := dOk_all ds (by simpa only [dOk] using h)
    refine ⟨by simpa only [toPy, PyData.canLay0] using h1, by simpa only [toPy, PyData.showable] using h2, by simpa only [toPy, PyData.intsShort] using h3, ?_⟩
    simp only [toPy, PyData.shown, tupleText]
    exact ((vd_str _).app (All.join (vd_str _) h4)).app (vd_str _)
  | .lst ds, h => by
    obtain ⟨h1, h2, h3, h4⟩ := dOk_all ds (by simpa only [dOk] using h)
    refine ⟨by simpa only [toPy, PyData.canLay0] using h1, by simpa only [toPy, PyData.showable] using h2, by simpa only [toPy, PyData.intsShort] using h3, ?_⟩
    simp only [toPy, PyData.shown, listText]
    exact (vd_from _ _ _ (vd_str _) h4).app (vd_str _)
  | .dic _, h => by simp [dOk] at h
  | .obj _ _, h => by simp [dOk] at h
  | .fnv _ _, h => by simp [dOk] at h
  | .row, h => by simp [dOk] at h
theorem dOk_all : ∀ ds : List D, dOkL ds = true → PyData.canLayAll0 (toPys ds) = true ∧ PyData.showableAll (toPys ds) = true ∧ PyData.intsShortAll 13 (toPys ds) = true ∧ ∀ t ∈ PyData.shownAll (toPys ds), All Vd t
  | [], _ => ⟨rfl, rfl, rfl, fun t ht => by simp [toPys, PyData.shownAll] at ht⟩
  | d :: r, h => by
    obtain ⟨ha, hb⟩ := Bool.and_eq_true_iff.mp (show (dOk d && dOkL r) = true by simpa only [dOkL] using h)
    obtain ⟨h1, h2, h3, h4⟩ := dOk_facts d ha
    obtain ⟨k1, k2, k3, k4⟩ := dOk_all r hb
    refine ⟨by simp only [toPys, PyData.canLayAll0, h1, k1, Bool.and_self], by simp only [toPys, PyData.showableAll, h2, k2, Bool.and_self], by simp only [toPys, PyData.intsShortAll, h3, k3, Bool.and_self], fun t ht => ?_⟩
    simp only [toPys, PyData.shownAll, List.mem_cons] at ht
    rcases ht with rfl | ht
    · exact h4
    · exact k4 t ht
end
theorem rpB_ok {d : D} (hp : pureD 20 d = true) (hd : dOk d = true) (hw : (toPy d).weight ≤ 2 ^ 20) : rpB d = true := by
  obtain ⟨h1, h2, h3, h4⟩ := dOk_facts d hd
  unfold rpB
  rw [hp, h2]
  exact decide_eq_true ⟨PyData.shown_fits (B := 13) (by omega) (by omega) (PyData.leavesShort_of_canLay0 13 _ h1 h3) hw, strOk_iff.mpr h4⟩
theorem rp_tup {ds : List D} (hp : pureD 20 (.tup ds) = true) (hd : dOk (.tup ds) = true) (hw : (toPy (.tup ds)).weight ≤ 2 ^ 20) : rpD (.tup ds) = some (.str (toPy (.tup ds)).shown) := if_pos (rpB_ok hp hd hw)
theorem dOkL_strs : ∀ {xs : List Str}, (∀ x ∈ xs, All Vd x) → dOkL (xs.map .str) = true
  | [], _ => rfl
  | x :: xs, h => by
    show (PyData.strOk x && dOkL (xs.map .str)) = true
    rw [strOk_iff.mpr (h x (List.mem_cons_self ..)), dOkL_strs fun y hy => h y (List.mem_cons_of_mem _ hy)]; rfl
theorem weight_strs {B : Nat} : ∀ {xs : List Str}, (∀ x ∈ xs, x.length ≤ B) → PyData.weightAll (toPys (xs.map .str)) ≤ xs.length * (B + 1)
  | [], _ => Nat.zero_le _
  | x :: xs, h => by
    have ih := weight_strs (B := B) fun y hy => h y (List.mem_cons_of_mem _ hy)
    have hx := h x (List.mem_cons_self ..)
    have e : PyData.weightAll (toPys ((x :: xs).map .str)) = PyData.weight (.str x) + 1 + PyData.weightAll (toPys (xs.map .str)) := by simp only [List.map_cons, toPys, toPy, PyData.weightAll]
    have e2 : PyData.weight (.str x) = x.cps.size := by simp only [PyData.weight]
    have e3 : x.length = x.cps.size := rfl
    rw [e, e2, List.length_cons, Nat.succ_mul]
    omega
/-! ### split and join -/
def jn (c : Nat) : List (List Nat) → List Nat
  | [] => []
  | [x] => x
  | x :: y :: r => x ++ c :: jn c (y :: r)
theorem free_cut {c : Nat} : ∀ {x y a b : List Nat}, c ∉ x → c ∉ y → x ++ c :: a = y ++ c :: b → x = y ∧ a = b
  | [], [], a, b, _, _, e => by injection e with _ e2; exact ⟨rfl, e2⟩
  | [], k :: y, a, b, _, hy, e => by
    injection e with e1 _
    exact absurd (e1 ▸ List.mem_cons_self ..) hy
  | k :: x, [], a, b, hx, _, e => by
    injection e with e1 _
    exact absurd (e1 ▸ List.mem_cons_self ..) hx
  | k :: x, l :: y, a, b, hx, hy, e => by
    injection e with e1 e2
    obtain ⟨h1, h2⟩ := free_cut (fun z => hx (List.mem_cons_of_mem _ z)) (fun z => hy (List.mem_cons_of_mem _ z)) e2
    exact ⟨by rw [e1, h1], h2⟩
theorem jn_inj {c : Nat} : ∀ {xs ys : List (List Nat)}, xs ≠ [] → ys ≠ [] → (∀ x ∈ xs, c ∉ x) → (∀ y ∈ ys, c ∉ y) → jn c xs = jn c ys → xs = ys
  | [], _, h, _, _, _, _ => absurd rfl h
  | _, [], _, h, _, _, _ => absurd rfl h
  | [x], [y], _, _, _, _, e => by rw [show x = y from e]
  | [x], y :: z :: r, _, _, hx, _, e => by
    have e : x = y ++ c :: jn c (z :: r) := e
    exact absurd (by rw [e]; simp) (hx x (List.mem_cons_self ..))
  | x :: w :: r, [y], _, _, _, hy, e => by
    have e : x ++ c :: jn c (w :: r) = y := e
    exact absurd (by rw [← e]; simp) (hy y (List.mem_cons_self ..))
  | x :: w :: r, y :: z :: s, _, _, hx, hy, e => by
    obtain ⟨h1, h2⟩ := free_cut (hx x (List.mem_cons_self ..)) (hy y (List.mem_cons_self ..)) e
    have := jn_inj (xs := w :: r) (ys := z :: s) (by simp) (by simp) (fun q hq => hx q (List.mem_cons_of_mem _ hq)) (fun q hq => hy q (List.mem_cons_of_mem _ hq)) h2
    rw [h1, this]
theorem join_cps (c : Nat) : ∀ xs : List Str, (Str.join ⟨#[c]⟩ xs).cps.toList = jn c (xs.map fun x => x.cps.toList)
  | [] => rfl
  | [x] => rfl
  | x :: y :: r => by
    show (x ++ ⟨#[c]⟩ ++ Str.join ⟨#[c]⟩ (y :: r)).cps.toList = _
    rw [app_cps, app_cps, join_cps c (y :: r)]
    simp [jn]
theorem cps_inj {x y : Str} (h : x.cps.toList = y.cps.toList) : x = y := Str.ext' (Array.toList_inj.mp h)
theorem cps_map_inj : ∀ {xs ys : List Str}, xs.map (fun x => x.cps.toList) = ys.map (fun x => x.cps.toList) → xs = ys
  | [], [], _ => rfl
  | [], _ :: _, h => by cases h
  | _ :: _, [], h => by cases h
  | x :: xs, y :: ys, h => by
    injection h with h1 h2
    rw [cps_inj h1, cps_map_inj h2]
theorem split_join {c : Nat} {xs : List Str} (h0 : xs ≠ []) (h : ∀ x ∈ xs, c ∉ x.cps.toList) : Txt.split (Str.join ⟨#[c]⟩ xs) ⟨#[c]⟩ = xs := by
  have e1 := StrLaws.join_split (Str.join ⟨#[c]⟩ xs) ⟨#[c]⟩
  have e2 := congrArg (fun z : Str => z.cps.toList) e1
  simp only [join_cps] at e2
  have hp := PyProof.Rows.split_pos (Str.join ⟨#[c]⟩ xs) ⟨#[c]⟩
  have hne : Txt.split (Str.join ⟨#[c]⟩ xs) ⟨#[c]⟩ ≠ [] := fun z => by rw [z] at hp; exact absurd hp (by decide)
  have hf := StrLaws.split_free (Str.join ⟨#[c]⟩ xs) c
  refine cps_map_inj (jn_inj ?_ ?_ ?_ ?_ e2)
  · simpa using hne
  · simpa using h0
  · intro x hx; obtain ⟨y, hy, rfl⟩ := List.mem_map.mp hx; exact hf y hy
  · intro x hx; obtain ⟨y, hy, rfl⟩ := List.mem_map.mp hx; exact h y hy
theorem mem_jn {c d : Nat} : ∀ {xs : List (List Nat)} {x : List Nat}, x ∈ xs → d ∈ x → d ∈ jn c xs
  | [x], y, hy, hd => by rw [List.mem_singleton.mp hy] at hd; exact hd
  | x :: z :: r, y, hy, hd => by
    show d ∈ x ++ c :: jn c (z :: r)
    rcases List.mem_cons.mp hy with rfl | hy
    · exact List.mem_append_left _ hd
    · exact List.mem_append_right _ (List.mem_cons_of_mem _ (mem_jn hy hd))
theorem All.split {P : Nat → Prop} {x : Str} {c : Nat} (h : All P x) : ∀ p ∈ Txt.split x ⟨#[c]⟩, All P p := fun p hp d hd => by
  refine h d ?_
  have e1 := StrLaws.join_split x ⟨#[c]⟩
  rw [← e1, join_cps]
  exact mem_jn (List.mem_map.mpr ⟨p, hp, rfl⟩) hd
theorem mt_split {x : Str} {c : Nat} (hl : x.length + 2 ≤ sizeLine) (h : All Vd x) : mtD .split (.str x) [.str ⟨#[c]⟩] = some (.lst ((Txt.split x ⟨#[c]⟩).map .str)) := by
  refine if_pos ⟨Nat.succ_ne_zero 0, hl, ?_, List.all_eq_true.mpr fun p hp => ?_⟩
  · have := PyProof.Rows.split_le x ⟨#[c]⟩
    omega
  · unfold okB
    have h1 := PyProof.Rows.part_short hp
    have h2 : PyData.strOk p = true := strOk_iff.mpr (h.split p hp)
    rw [h2, Bool.and_true]
    exact decide_eq_true (by omega)
@[simp] theorem rcv_split {x : Str} : rcvD .split (.str x) = true := rfl
@[simp] theorem ev_gcall {x : Str} {g : Fn} {es : E} {σ : St} {r : Rho} : ev (.gcall x g es) σ r = (ev es σ r).bind (hTup g) := by
  simp only [ev]; congr 1; funext x r; cases x <;> rfl
@[simp] theorem ev_rp {a : E} {σ : St} {r : Rho} : ev (.rp a) σ r = (ev a σ r).bind fun x r => .lift (rpD x) r := by simp only [ev]
theorem told_ok {x : Str} {ns : List (Nat × Str)} {b : E} {σ : St} {r r' : Rho} {d : D} (h : ev b σ r = .ok d r') : ev (.told x ns b) σ r = .ok (.tup [.str "told", d]) r' := by
  simp only [ev, h]
theorem told_exc {x : Str} {ns : List (Nat × Str)} {b : E} {σ : St} {r r' : Rho} {e : Exc} {n : Str} (h : ev b σ r = .exc e r') (hn : ns.lookup e.c = some n) : ev (.told x ns b) σ r = .ok (.tup (.str n :: e.ds)) r' := by
  simp only [ev, h, hn]; rfl
/-! ### parts of texts -/
theorem cutS_all {P : Nat → Prop} {x : Str} {l h : Option Int} (hx : All P x) : All P (L2.cutS x l h) := fun c hc => hx c (by
  have hc : c ∈ ((x.cps.toList.drop (HT.sIx x.length 0 l)).take (HT.sIx x.length x.length h - HT.sIx x.length 0 l)) := by simpa [L2.cutS] using hc
  exact List.mem_of_mem_drop (List.mem_of_mem_take hc))
theorem cutS_len {x : Str} {l h : Option Int} : (L2.cutS x l h).length ≤ x.length := by
  have e : (L2.cutS x l h).length = ((x.cps.toList.drop (HT.sIx x.length 0 l)).take (HT.sIx x.length x.length h - HT.sIx x.length 0 l)).length := by simp [L2.cutS, Str.length]
  rw [e, List.length_take, List.length_drop]
  show _ ≤ x.cps.size
  have : x.cps.toList.length = x.cps.size := Array.length_toList
  omega
@[simp] theorem ev_sl11 {a b e : E} {σ : St} {r : Rho} : ev (.sl a (some b) (some e)) σ r = (ev a σ r).bind fun x r => (ev b σ r).bind fun y r => (Rs.lift ((intD y).map some) r).bind fun l r => (ev e σ r).bind fun z r => (Rs.lift ((intD z).map some) r).bind fun h r => .lift (slD x l h) r := by
  simp only [ev]
  congr 1; funext x r
  cases ev b σ r with
  | ok y r1 =>
    simp only [Rs.bind_ok]
    congr 1; funext l r2
    cases ev e σ r2 <;> rfl
  | exc y r1 => rfl
  | stuck => rfl
@[simp] theorem slD_str {x : Str} {l h : Option Int} : slD (.str x) l h = some (.str (L2.cutS x l h)) := rfl
def hRaise (c n : Nat) : D → Rho → Rs Fl
  | .tup ds, r => if ds.length = n then .exc ⟨c, ds⟩ r else .stuck
  | _, _ => .stuck
@[simp] theorem evS_raise {x : Str} {c n : Nat} {es : E} {σ : St} {r : Rho} : evS (.raise x c n es) σ r = (ev es σ r).bind (hRaise c n) := by
  simp only [evS]; congr 1; funext x r; cases x <;> rfl
@[simp] theorem hRaise_tup {c n : Nat} {ds : List D} {r : Rho} : hRaise c n (.tup ds) r = if ds.length = n then .exc ⟨c, ds⟩ r else .stuck := rfl
/-- one sign of a text -/
def chr (c : Nat) : Str := ⟨#[c]⟩
theorem chr_inj {a b : Nat} : chr a = chr b ↔ a = b := ⟨fun h => by
  have := congrArg (fun z : Str => z.cps.toList) h
  simpa [chr] using this, fun h => by rw [h]⟩
theorem ix_first {x : Str} (h : 1 ≤ x.length) : ixD (.str x) (.int 0) = some (.str (chr (x.cps.toList.headD 0))) := by
  have h0 : x.cps.toList.length = x.length := Array.length_toList
  show (ixN x.length 0).bind (fun j => (x.cps.toList[j]?).map fun c => D.str ⟨#[c]⟩) = _
  rw [ixN_pos (by omega) (by omega)]
  cases e : x.cps.toList with
  | nil => rw [e] at h0; simp at h0; omega
  | cons a l => rfl
theorem ix_last {x : Str} (h : 1 ≤ x.length) : ixD (.str x) (.int (-1)) = some (.str (chr (x.cps.toList.getLastD 0))) := by
  have h0 : x.cps.toList.length = x.length := Array.length_toList
  show (ixN x.length (-1)).bind (fun j => (x.cps.toList[j]?).map fun c => D.str ⟨#[c]⟩) = _
  have e : ixN x.length (-1) = some (x.length - 1) := by
    unfold ixN
    rw [if_neg (by omega), if_pos (by omega)]
    congr 1
    omega
  rw [e, Option.bind_some, ← h0]
  have : x.cps.toList[x.cps.toList.length - 1]? = x.cps.toList.getLast? := List.getLast?_eq_getElem?.symm
  rw [this, List.getLastD_eq_getLast?]
  cases hq : x.cps.toList.getLast? with
  | none => rw [List.getLast?_eq_none_iff.mp hq] at h0; simp at h0; omega
  | some a => rfl
theorem mid_cps (x : Str) : (L2.cutS x (some 1) (some (-1))).cps.toList = (x.cps.toList.drop 1).take (x.length - 2) := by
  have e1 : HT.sIx x.length 0 (some 1) = min 1 x.length := HT.sIx_nat x.length 0 1
  have e2 : HT.sIx x.length x.length (some (-1)) = x.length - 1 := by
    unfold HT.sIx
    simp
    omega
  have e3 : (L2.cutS x (some 1) (some (-1))).cps.toList = (x.cps.toList.drop (min 1 x.length)).take (x.length - 1 - min 1 x.length) := by simp [L2.cutS, e1, e2]
  rw [e3]
  by_cases h : 1 ≤ x.length
  · rw [Nat.min_eq_left h]
    congr 1
  · have : x.length = 0 := by omega
    have h0 : x.cps.toList.length = x.length := Array.length_toList
    have h1 : x.cps.toList = [] := List.eq_nil_of_length_eq_zero (by omega)
    rw [h1]; simp
theorem mid_cut (a b : Nat) (x : Str) : L2.cutS (chr a ++ x ++ chr b) (some 1) (some (-1)) = x := by
  have e : (chr a ++ x ++ chr b).cps.toList = a :: (x.cps.toList ++ [b]) := by rw [app_cps, app_cps]; simp [chr]
  have el : (chr a ++ x ++ chr b).length = x.cps.toList.length + 2 := by
    have : (chr a ++ x ++ chr b).cps.toList.length = (chr a ++ x ++ chr b).length := Array.length_toList
    rw [← this, e]; simp
  refine cps_inj ?_
  rw [mid_cps, e, el]
  simp
theorem _root_.DI.Rs.bind_assoc {α β γ : Type} (x : Rs α) (f : α → Rho → Rs β) (g : β → Rho → Rs γ) : (x.bind f).bind g = x.bind fun a r => (f a r).bind g := by cases x <;> rfl
end DQ
set_option linter.all false
set_option maxRecDepth 100000
/-! Q2: more steps of the evaluator: put, +=, ranges, lists of lambdas; loops that fold. -/
namespace DQ
open PySem DI
variable {σ : St} {r : Rho} {a b c e es : E} {s t : S}
def hPutK (i : Nat) (σ : St) (ds : List D) (d : D) : D → Rho → Rs Fl
  | .int j, r => hOpt (fun m => .ok (.nx (σ.set i (.own (ds.set m d)))) r) (ixN ds.length j)
  | _, _ => .stuck
def hPut (i : Nat) (σ : St) (k : Rho → Rs D) (d : D) (r : Rho) : Option Slot → Rs Fl
  | some (.own ds) => (k r).bind (hPutK i σ ds d)
  | some (.ownd kvs) => (k r).bind fun k r => if isKey k = true ∧ kvs.length < sizeLine then .ok (.nx (σ.set i (.ownd (putD k d kvs)))) r else .stuck
  | _ => .stuck
theorem evS_put {i : Nat} {k : E} : evS (.put i k e) σ r = (ev e σ r).bind fun d r => hPut i σ (ev k σ) d r σ[i]? := by
  simp only [evS]; congr 1; funext d r
  cases σ[i]? with
  | none => rfl
  | some s =>
    cases s with
    | own ds =>
      show Rs.bind _ _ = Rs.bind _ _
      congr 1; funext x r
      cases x with
      | int j => show (match ixN ds.length j with | some m => _ | none => _) = hOpt _ _; cases ixN ds.length j <;> rfl
      | _ => rfl
    | _ => rfl
@[simp] theorem hPut_own {i : Nat} {k : Rho → Rs D} {d : D} {ds : List D} : hPut i σ k d r (some (.own ds)) = (k r).bind (hPutK i σ ds d) := rfl
@[simp] theorem hPutK_int {i : Nat} {d : D} {ds : List D} {j : Int} : hPutK i σ ds d (.int j) r = hOpt (fun m => .ok (.nx (σ.set i (.own (ds.set m d)))) r) (ixN ds.length j) := rfl
def hAugK (i : Nat) (σ : St) (a : Int) : D → Rho → Rs Fl
  | .int b, r => .ok (.nx (σ.set i (.val (.int (a + b))))) r
  | _, _ => .stuck
def hAug (i : Nat) (σ : St) (k : Rs D) : Option Slot → Rs Fl
  | some (.val (.int a)) => k.bind (hAugK i σ a)
  | _ => .stuck
theorem evS_aug {i : Nat} : evS (.aug i e) σ r = hAug i σ (ev e σ r) σ[i]? := by
  simp only [evS]
  cases σ[i]? with
  | none => rfl
  | some s =>
    cases s with
    | val d =>
      cases d with
      | int a => show Rs.bind _ _ = Rs.bind _ _; congr 1; funext y r; cases y <;> rfl
      | _ => rfl
    | _ => rfl
@[simp] theorem hAug_int {i : Nat} {k : Rs D} {a : Int} : hAug i σ k (some (.val (.int a))) = k.bind (hAugK i σ a) := rfl
@[simp] theorem hAugK_int {i : Nat} {a b : Int} : hAugK i σ a (.int b) r = .ok (.nx (σ.set i (.val (.int (a + b))))) r := rfl
def Rg3 (i j k : Int) : Prop := 0 < k ∧ k < 1073741824 ∧ -(2 ^ 60) ≤ i ∧ i < 2 ^ 60 ∧ -(2 ^ 60) ≤ j ∧ j < 2 ^ 60 ∧ j - i ≤ 16000000
theorem ev_rng3 {i j k : Int} (h1 : ev a σ r = .ok (.int i) r) (h2 : ev b σ r = .ok (.int j) r) (h3 : ev c σ r = .ok (.int k) r) (h : Rg3 i j k) : ev (.rng3 a b c) σ r = .ok (.lst (rngC i k ((j - i + k - 1) / k).toNat)) r := by
  simp only [ev, h1, h2, h3, Rs.bind_ok]
  exact if_pos h
theorem biD_lrng3 {i j k : Int} (h : Rg3 i j k) : biD .lrng3 [.int i, .int j, .int k] = some (.lst (rngC i k ((j - i + k - 1) / k).toNat)) := if_pos h
theorem biD_lrng2 {i j : Int} (h : -(2 ^ 62) ≤ i ∧ i < 2 ^ 62 ∧ -(2 ^ 62) ≤ j ∧ j < 2 ^ 62 ∧ j - i ≤ 16000000) : biD .lrng2 [.int i, .int j] = some (.lst (rngL i (j - i).toNat)) := if_pos h
@[simp] theorem ev_lrng3 : ev (.bi .lrng3 es) σ r = (ev es σ r).bind (hTup fun ds r => .lift (biD .lrng3 ds) r) := ev_bi
@[simp] theorem ev_lrng2 : ev (.bi .lrng2 es) σ r = (ev es σ r).bind (hTup fun ds r => .lift (biD .lrng2 ds) r) := ev_bi
@[simp] theorem ev_sum : ev (.bi .sum es) σ r = (ev es σ r).bind (hTup fun ds r => .lift (biD .sum ds) r) := ev_bi
@[simp] theorem ev_max2 : ev (.bi .max2 es) σ r = (ev es σ r).bind (hTup fun ds r => .lift (biD .max2 ds) r) := ev_bi
@[simp] theorem biD_max2 {i j : Int} : biD .max2 [.int i, .int j] = some (.int (if j > i then j else i)) := rfl
theorem intsD_map {l : List Int} : intsD (l.map .int) = some l := by
  induction l with
  | nil => rfl
  | cons x l ih => simp [intsD, ih]
theorem biD_sum {l : List Int} : biD .sum [.lst (l.map .int)] = some (.int l.sum) := by
  show (intsD _).map _ = _
  rw [intsD_map]; rfl
@[simp] theorem ev_clam {n : Nat} {b : E} : ev (.clam n b) σ r = .ok (.fnv n [.non]) r := by simp only [ev]
/-- a list of lambdas, told one by one -/
theorem ev_tells {i j : Nat} {nums : List Nat} {own : List (Str × Nat)} {bs : E} {fs ds : List D} {r' : Rho} (h1 : σ[i]? = some (.val (.lst fs))) (h2 : fnsB nums fs = true) (h3 : j < σ.length) (h4 : ev bs σ r = .ok (.tup ds) r') : ev (.tells i j nums own bs) σ r = .ok (.lst ds) r' := by
  simp only [ev, h1, h2, h4, h3, decide_true, Bool.and_self, if_true, Rs.bind_ok]
/-! ### loops that fold -/
theorem forR_fold {α β : Type} {f : D → St → Rho → Rs Fl} {kills : List Nat} {enc : α → D} {st : β → St} {step : β → α → β} {P : List α → β → Prop} {r : Rho}
    (h : ∀ a rest b, P (a :: rest) b → ∃ σ', f (enc a) (st b) r = .ok (.nx σ') r ∧ killS σ' kills = st (step b a) ∧ P rest (step b a)) :
    ∀ (as : List α) (b : β), P as b → forR f kills (as.map enc) (st b) r = .ok (.nx (st (as.foldl step b))) r
  | [], b, _ => rfl
  | a :: as, b, hp => by
    obtain ⟨σ', e1, e2, e3⟩ := h a as b hp
    rw [List.map_cons, forR, e1, Rs.bind_ok]
    show forR f kills (as.map enc) (killS σ' kills) r = _
    rw [e2, forR_fold h as _ e3]
    rfl
theorem zipL_map {α β : Type} {f : α → D} {g : β → D} : ∀ (xs : List α) (ys : List β), zipL (xs.map f) (ys.map g) = (xs.zip ys).map fun p => .tup [f p.1, g p.2]
  | [], _ => by cases ‹List β› <;> rfl
  | _ :: _, [] => rfl
  | x :: xs, y :: ys => by simp [zipL, zipL_map xs ys]
theorem len_app (x y : Str) : (x ++ y).length = x.length + y.length := by
  show (x.cps ++ y.cps).size = _
  rw [Array.size_append]; rfl
theorem opD_addS {x y : Str} (h : x.length + y.length ≤ sizeLine) : opD .add (.str x) (.str y) = some (.str (x ++ y)) := if_pos h
theorem rngC_eq {lo c : Int} {n : Nat} : rngC lo c n = (List.range n).map fun k => .int (lo + (k : Nat) * c) := rfl
theorem rngL_eq {lo : Int} {n : Nat} : rngL lo n = (List.range n).map fun k => .int (lo + (k : Nat)) := rfl
/-! ### the same data twice are alike -/
inductive AL : Nat → D → Prop
  | str {n : Nat} (x : Str) : AL n (.str x)
  | int {n : Nat} (i : Int) : AL n (.int i)
  | non {n : Nat} : AL n .non
  | tup {n : Nat} {ds : List D} (h : ds.length ≤ 16000000) (hs : ∀ d ∈ ds, AL n d) : AL (n + 1) (.tup ds)
  | lst {n : Nat} {ds : List D} (h : ds.length ≤ 16000000) (hs : ∀ d ∈ ds, AL n d) : AL (n + 1) (.lst ds)
theorem AL.strs {n : Nat} {xs : List Str} (h : xs.length ≤ 16000000) : AL (n + 1) (.tup (xs.map .str)) := .tup (by simpa using h) fun d hd => by obtain ⟨x, _, rfl⟩ := List.mem_map.mp hd; exact .str x
theorem AL.ints {n : Nat} {xs : List Int} (h : xs.length ≤ 16000000) : AL (n + 1) (.tup (xs.map .int)) := .tup (by simpa using h) fun d hd => by obtain ⟨x, _, rfl⟩ := List.mem_map.mp hd; exact .int x
theorem is_str_non {x : Str} : cmpD .is (.str x) .non = some false := rfl
theorem is_int_non {x : Int} : cmpD .is (.int x) .non = some false := rfl
theorem eq_bl {a b : Bool} : cmpD .eq (.bl a) (.bl b) = some (decide (a = b)) := by cases a <;> cases b <;> rfl
theorem ne_bl {a b : Bool} : cmpD .ne (.bl a) (.bl b) = some (!decide (a = b)) := by cases a <;> cases b <;> rfl
theorem eq_nil : cmpD .eq (.lst []) (.lst []) = some true := rfl
theorem range_iter (n : Nat) : iterD (.lst (rngL 0 n)) = some (rngL 0 n) := rfl
theorem rngL_length {lo : Int} {n : Nat} : (rngL lo n).length = n := by unfold rngL; simp
theorem hRng1_ok {j : Int} {r : Rho} (h : 0 ≤ j) (h2 : j ≤ 16000000) : hRng1 (.int j) r = .ok (.lst (rngL 0 j.toNat)) r := by
  rw [hRng1_int, if_pos ⟨by omega, h2⟩]
theorem comp_wp2 {σ : St} {r : Rho} {it elt : E} {own : List (Str × Nat)} {tg : Tg} {I : Rho → Prop} {N : Nat → Prop} {P : D → Prop} {Q : D → Rho → Prop} (hi : Wp (ev it σ r) fun x r1 => I r1 ∧ ∃ n : Nat, N n ∧ x = .lst (rngL 0 n))
    (h : ∀ d r, I r → ∃ σ', asg tg d (killS σ (own.map (·.2))) = some σ' ∧ Wp (ev elt σ' r) fun y r' => I r' ∧ P y) (q : ∀ l r', I r' → N l.length → (∀ x ∈ l, P x) → Q (.lst l) r') : Wp (ev (.comp own tg it none elt) σ r) Q := by
  rw [DQ.ev_comp, Wp_bind]
  refine hi.mono fun x r1 ⟨h1, n, hn, e⟩ => ?_
  subst e
  rw [range_iter, hOpt_some, Wp_calm, Wp_bind]
  refine (mapR_wp (I := I) (P := P) h1 fun d _ r hr => ?_).mono fun l r' ⟨h1, h2, h3⟩ => q l r' h1 (by rw [h2, rngL_length]; exact hn) h3
  obtain ⟨σ', e1, e2⟩ := h d r hr
  rw [e1, hOpt_some, Wp_bind]
  exact e2.mono fun y r' ⟨a, b⟩ => ⟨a, y, rfl, b⟩
theorem strs_all {l : List D} {P : Str → Prop} (h : ∀ y ∈ l, ∃ x, P x ∧ y = .str x) : ∃ xs : List Str, l = xs.map .str ∧ ∀ x ∈ xs, P x := by
  induction l with
  | nil => exact ⟨[], rfl, fun x hx => by cases hx⟩
  | cons y l ih =>
    obtain ⟨x, hx, rfl⟩ := h y (List.mem_cons_self ..)
    obtain ⟨xs, e, hxs⟩ := ih fun z hz => h z (List.mem_cons_of_mem _ hz)
    exact ⟨x :: xs, by rw [e]; rfl, fun z hz => by
      rcases List.mem_cons.mp hz with rfl | hz
      · exact hx
      · exact hxs z hz⟩
end DQ
set_option linter.all false
set_option maxRecDepth 100000
namespace LW
open PySem DI DQ
def RI (r : Rho) : Prop := 0 ≤ r.i
theorem pow18 : opD .pow (.int 10) (.int 18) = some (.int 1000000000000000000) := by rfl
theorem taken_wp {a : Int} {r : Rho} (ha : 0 < a) (hb : a < 1073741824) (hr : RI r) : Wp (f__law_taken [.row, .int a] r) fun d r' => RI r' ∧ ∃ t, d = .int t ∧ 0 ≤ t ∧ t < a := by
  have m1 : ∀ z : Int, 0 ≤ z % a ∧ z % a < a := fun z => ⟨Int.emod_nonneg _ (by omega), Int.emod_lt_of_pos _ ha⟩
  have hr1 : 0 ≤ r.i := hr
  by_cases h1 : 0 < r.c
  · simp [f__law_taken, runF_eq, b__law_taken, startD, rowI, rowSet, DQ.opD_mod ha, DQ.opD_fdiv ⟨ha, hb⟩, h1]
    exact ⟨hr, m1 _⟩
  · by_cases h2 : (r.ns.length : Int) < r.i + 1
    · simp [f__law_taken, runF_eq, b__law_taken, startD, rowI, rowSet, DQ.opD_mod ha, h1, h2, DQ.opD_mul (j := 48271) (by decide), DQ.opD_mod (j := 2147483647) (by decide), DQ.opD_fdiv (j := 7) (by decide)]
      exact ⟨by show 0 ≤ r.i + 1; omega, m1 _⟩
    · obtain ⟨m, e1⟩ : ∃ m, r.i.toNat = m := ⟨_, rfl⟩
      have hlt : r.i.toNat < r.ns.length := by omega
      have e2 : ixN r.ns.length r.i = some r.i.toNat := ixN_pos hr1 (by omega)
      have e3 : r.ns[r.i.toNat]? = some r.ns[r.i.toNat] := List.getElem?_eq_getElem hlt
      have e4 : r.i + 1 - 1 = r.i := by omega
      by_cases h3 : 1000000000000000000 ≤ r.ns[r.i.toNat]
      · simp [f__law_taken, runF_eq, b__law_taken, startD, rowI, rowSet, DQ.opD_mod ha, DQ.opD_fdiv ⟨ha, hb⟩, h1, h2, e2, e3, e4, h3, pow18, DQ.opD_mul (j := 48271) (by decide), DQ.opD_mod (j := 2147483647) (by decide), DQ.opD_fdiv (j := 7) (by decide)]
        exact ⟨by show 0 ≤ r.i + 1; omega, m1 _⟩
      · simp [f__law_taken, runF_eq, b__law_taken, startD, rowI, rowSet, DQ.opD_mod ha, DQ.opD_fdiv ⟨ha, hb⟩, h1, h2, e2, e3, e4, h3, pow18, DQ.opD_mul (j := 48271) (by decide), DQ.opD_mod (j := 2147483647) (by decide), DQ.opD_fdiv (j := 11) (by decide), DQ.opD_mul (j := 31) (by decide), DQ.opD_mod (j := 1000003) (by decide)]
        exact ⟨by show 0 ≤ r.i + 1; omega, m1 _⟩
theorem pick_wp {ds : List D} {r : Rho} (ha : ds ≠ []) (hb : ds.length < 1073741824) (hr : RI r) : Wp (f__law_pick [.row, .lst ds] r) fun d r' => RI r' ∧ d ∈ ds := by
  have hl : 0 < ds.length := List.length_pos_iff.mpr ha
  simp [f__law_pick, runF_eq, b__law_pick, startD]
  simp only [Wp_bind]
  refine (taken_wp (a := ds.length) (by omega) (by omega) hr).mono fun d r' ⟨h1, t, e, h2, h3⟩ => ?_
  subst e
  have hlt : t.toNat < ds.length := by omega
  simp [ixN_pos h2 h3, List.getElem?_eq_getElem hlt]
  exact h1
theorem alike_tupG {g : Fn} {ds : List D} {r : Rho} (hl : ds.length ≤ 16000000) (h : ∀ d ∈ ds, ∀ r, g [d, d] r = .ok (.bl true) r) : runF 3 2 (b__law_alike g) [.tup ds, .tup ds] r = .ok (.bl true) r := by
  simp [runF_eq, b__law_alike, startD, ne_bl]
  rw [compIf_as (as := List.range ds.length) (f := fun k => .int (0 + (k : Nat))) (g := fun _ => .non) (p := fun _ => false) (.lst (rngL 0 ds.length)) (by
    simp [hRng1_ok (j := (ds.length : Int)) (by omega) (by omega), -hRng1_int]) rfl (fun k hk => by
      have hk := List.mem_range.mp hk
      have e1 : ixN ds.length (k : Int) = some k := by rw [ixN_pos (by omega) (by omega)]; simp
      have e2 : ds[k]? = some ds[k] := List.getElem?_eq_getElem hk
      exact ⟨_, by simp; rfl, by simp [e1, e2, h ds[k] (List.getElem_mem _)], fun z => by cases z⟩)]
  have : (List.range ds.length).filter (fun _ => false) = [] := by simp
  rw [this]
  simp [eq_nil]
theorem alike_lstG {g : Fn} {ds : List D} {r : Rho} (hl : ds.length ≤ 16000000) (h : ∀ d ∈ ds, ∀ r, g [d, d] r = .ok (.bl true) r) : runF 3 2 (b__law_alike g) [.lst ds, .lst ds] r = .ok (.bl true) r := by
  simp [runF_eq, b__law_alike, startD, ne_bl]
  rw [compIf_as (as := List.range ds.length) (f := fun k => .int (0 + (k : Nat))) (g := fun _ => .non) (p := fun _ => false) (.lst (rngL 0 ds.length)) (by
    simp [hRng1_ok (j := (ds.length : Int)) (by omega) (by omega), -hRng1_int]) rfl (fun k hk => by
      have hk := List.mem_range.mp hk
      have e1 : ixN ds.length (k : Int) = some k := by rw [ixN_pos (by omega) (by omega)]; simp
      have e2 : ds[k]? = some ds[k] := List.getElem?_eq_getElem hk
      exact ⟨_, by simp; rfl, by simp [e1, e2, h ds[k] (List.getElem_mem _)], fun z => by cases z⟩)]
  have : (List.range ds.length).filter (fun _ => false) = [] := by simp
  rw [this]
  simp [eq_nil]
theorem alike_same {n : Nat} {d : D} (h : AL n d) : ∀ r : Rho, r__law_alike (n + 1) [d, d] r = .ok (.bl true) r := by
  induction h with
  | str x => intro r; simp [r__law_alike, runF_eq, b__law_alike, startD, is_str_non, eq_bl]
  | int x => intro r; simp [r__law_alike, runF_eq, b__law_alike, startD, is_int_non, eq_bl]
  | non => intro r; rfl
  | tup hl _ ih => intro r; exact alike_tupG hl ih
  | lst hl _ ih => intro r; exact alike_lstG hl ih
theorem alike_ok {d : D} (h : AL 8 d) (r : Rho) : f__law_alike [d, d] r = .ok (.bl true) r := alike_same h r
theorem pick_str {xs : List Str} {r : Rho} (ha : xs ≠ []) (hb : xs.length < 1073741824) (hr : RI r) : Wp (f__law_pick [.row, .lst (xs.map .str)] r) fun d r' => RI r' ∧ ∃ x ∈ xs, d = .str x := by
  refine (pick_wp (ds := xs.map .str) (by simpa using ha) (by simpa using hb) hr).mono fun d r' ⟨h1, h2⟩ => ?_
  obtain ⟨x, hx, rfl⟩ := List.mem_map.mp h2
  exact ⟨h1, x, hx, rfl⟩
theorem same_ok {d : D} (h : ∃ u, rpD d = some (.str u)) (r : Rho) : f__law_same [d, d] r = .ok (.bl true) r := by
  obtain ⟨u, h⟩ := h
  simp [f__law_same, runF_eq, b__law_same, startD, h]
end LW
set_option linter.all false
set_option maxRecDepth 100000
set_option maxHeartbeats 0
namespace LW
open PySem DI DQ
/-! ### widths, heights -/
theorem whole_ok {i : Int} (r : Rho) : f_is_whole [.int i] r = .ok (.bl true) r := by
  simp [f_is_whole, runF_eq, b_is_whole, startD]
theorem within_ok {i l m : Int} (h : l ≤ i ∧ i ≤ m) (r : Rho) : f_is_within [.int i, .int l, .int m] r = .ok (.bl true) r := by
  simp [f_is_within, runF_eq, b_is_within, startD, whole_ok, h.1, h.2]
theorem need_width_ok {w : Int} (h : 1 ≤ w ∧ w ≤ 200) (r : Rho) : f_need_width [.int w] r = .ok .non r := by
  have := within_ok (l := 1) (m := 200) h r
  simp [f_need_width, runF_eq, b_need_width, startD, c_MOST_WIDTH, this]
/-- what is no width, no height -/
def oddW : List D := [.int 0, .int 201, .int (-1), .non, .bl true, .str "3"]
def oddH : List D := [.int 0, .int 101, .int (-1), .non, .bl true, .str "3"]
theorem non_whole : ∀ d ∈ ([.non, .bl true, .str "3"] : List D), ∀ r, f_is_whole [d] r = .ok (.bl false) r := by
  intro d hd r
  have tn : ∀ t, tyD .non t = some false := fun t => rfl
  simp only [List.mem_cons, List.not_mem_nil, or_false] at hd
  rcases hd with rfl | rfl | rfl <;> simp [f_is_whole, runF_eq, b_is_whole, startD, tn]
theorem not_within {m : Int} (hm : 1 ≤ m) {d : D} (hd : d = .int 0 ∨ d = .int (m + 1) ∨ d = .int (-1) ∨ d = .non ∨ d = .bl true ∨ d = .str "3") (r : Rho) : f_is_within [d, .int 1, .int m] r = .ok (.bl false) r := by
  have nw := non_whole
  rcases hd with rfl | rfl | rfl | rfl | rfl | rfl
  · simp [f_is_within, runF_eq, b_is_within, startD, whole_ok]
  · have : (1 : Int) ≤ m + 1 := by omega
    have h2 : ¬ m + 1 ≤ m := by omega
    simp [f_is_within, runF_eq, b_is_within, startD, whole_ok, this, h2]
  · simp [f_is_within, runF_eq, b_is_within, startD, whole_ok]
  · simp [f_is_within, runF_eq, b_is_within, startD, nw .non (by simp)]
  · simp [f_is_within, runF_eq, b_is_within, startD, nw (.bl true) (by simp)]
  · simp [f_is_within, runF_eq, b_is_within, startD, nw (.str "3") (by simp)]
theorem need_width_bad {d : D} (h : d ∈ oddW) (r : Rho) : f_need_width [d] r = .exc ⟨2, [d]⟩ r := by
  have := not_within (m := 200) (by decide) (d := d) (by simpa [oddW] using h) r
  simp [f_need_width, runF_eq, b_need_width, startD, c_MOST_WIDTH, this, Rs.bind]
theorem page_of_line_bad {d : D} (h : d ∈ oddH) (l : D) (r : Rho) : f_page_of_line [l, d] r = .exc ⟨2, [d]⟩ r := by
  have := not_within (m := 100) (by decide) (d := d) (by simpa [oddH] using h) r
  simp [f_page_of_line, runF_eq, b_page_of_line, startD, c_MOST_HEIGHT, this, Rs.bind]
theorem page_of_line_ok {l h : Int} (hh : 1 ≤ h ∧ h ≤ 100) (r : Rho) : f_page_of_line [.int l, .int h] r = .ok (.int (l / h + 1)) r := by
  have := within_ok (l := 1) (m := 100) hh r
  simp [f_page_of_line, runF_eq, b_page_of_line, startD, c_MOST_HEIGHT, this, DQ.opD_fdiv (i := l) (j := h) ⟨by omega, by omega⟩]
/-! ### the numbers of the lines -/
abbrev LnS := List Int × Int × Int
def lnS (w : Int) (b : LnS) (n : Int) : LnS := if 0 < b.2.2 ∧ w < b.2.2 + 1 + n then (b.1 ++ [b.2.1 + 1], b.2.1 + 1, n) else (b.1 ++ [b.2.1], b.2.1, b.2.2 + n + if 0 < b.2.2 then 1 else 0)
def lnA (w : Int) : Int → Int → List Int → List Int
  | _, _, [] => []
  | l, u, n :: ns => if 0 < u ∧ w < u + 1 + n then (l + 1) :: lnA w (l + 1) n ns else l :: lnA w l (u + n + if 0 < u then 1 else 0) ns
theorem lnS_fold (w : Int) : ∀ (ns : List Int) (f : List Int) (l u : Int), (ns.foldl (lnS w) (f, l, u)).1 = f ++ lnA w l u ns
  | [], f, l, u => by simp [lnA]
  | n :: ns, f, l, u => by
    rw [List.foldl_cons]
    by_cases h : 0 < u ∧ w < u + 1 + n
    · have e : lnS w (f, l, u) n = (f ++ [l + 1], l + 1, n) := if_pos h
      rw [e, lnS_fold, lnA, if_pos h, List.append_assoc]; rfl
    · have e : lnS w (f, l, u) n = (f ++ [l], l, u + n + if 0 < u then 1 else 0) := if_neg h
      rw [e, lnS_fold, lnA, if_neg h, List.append_assoc]; rfl
def lns (w : Int) (ns : List Int) : List Int := lnA w 0 0 ns
theorem lnA_length (w : Int) : ∀ (ns : List Int) (l u : Int), (lnA w l u ns).length = ns.length
  | [], l, u => rfl
  | n :: ns, l, u => by
    unfold lnA
    split <;> rw [List.length_cons, lnA_length, List.length_cons]
theorem line_numbers_ok {w : Int} (hw : 1 ≤ w ∧ w ≤ 200) {ns : List Int} (hn : ns.length < sizeLine) (r : Rho) : f_line_numbers [.lst (ns.map .int), .int w] r = .ok (.tup ((lns w ns).map .int)) r := by
  have hnw := need_width_ok hw r
  simp [f_line_numbers, runF_eq, b_line_numbers, startD, hnw, setTs]
  refine (congrArg (fun x => (Rs.bind x _).bind _) (forR_fold (α := Int) (β := LnS) (enc := D.int) (step := lnS w) (st := fun b => [.val (.lst (ns.map .int)), .val (.int w), .un, .own (b.1.map .int), .val (.int b.2.1), .val (.int b.2.2)]) (P := fun as b => b.1.length + as.length < sizeLine) ?_ ns ([], 0, 0) ?_)).trans ?_
  · intro n rest b hp
    obtain ⟨f, l, u⟩ := b
    have hp : f.length + (rest.length + 1) < sizeLine := hp
    have hp1 : f.length < sizeLine := by omega
    by_cases h0 : 0 < u
    · by_cases h1 : w < u + 1 + n
      · have e : lnS w (f, l, u) n = (f ++ [l + 1], l + 1, n) := if_pos ⟨h0, h1⟩
        rw [e]
        refine ⟨_, by simp [h0, h1, setTs, hp1]; rfl, by simp, ?_⟩
        show (f ++ [l + 1]).length + rest.length < sizeLine
        rw [List.length_append]; show f.length + 1 + rest.length < sizeLine; omega
      · have e : lnS w (f, l, u) n = (f ++ [l], l, u + n + 1) := by
          have : lnS w (f, l, u) n = (f ++ [l], l, u + n + if 0 < u then 1 else 0) := if_neg fun z => h1 z.2
          rw [this, if_pos h0]
        rw [e]
        refine ⟨_, by simp [h0, h1, setTs, hp1]; rfl, by simp, ?_⟩
        show (f ++ [l]).length + rest.length < sizeLine
        rw [List.length_append]; show f.length + 1 + rest.length < sizeLine; omega
    · have e : lnS w (f, l, u) n = (f ++ [l], l, u + n + 0) := by
        have : lnS w (f, l, u) n = (f ++ [l], l, u + n + if 0 < u then 1 else 0) := if_neg fun z => h0 z.1
        rw [this, if_neg h0]
      rw [e]
      refine ⟨_, by simp [h0, setTs, hp1]; rfl, by simp, ?_⟩
      show (f ++ [l]).length + rest.length < sizeLine
      rw [List.length_append]; show f.length + 1 + rest.length < sizeLine; omega
  · show 0 + ns.length < sizeLine
    omega
  · simp [lnS_fold, lns]
end LW
set_option linter.all false
set_option maxRecDepth 100000
set_option maxHeartbeats 0
namespace LW
open PySem DI DQ
theorem pureL_ints {n : Nat} : ∀ xs : List Int, pureL n (xs.map .int) = true
  | [] => rfl
  | x :: xs => by simp [pureL, pureD, pureL_ints xs]
theorem ne_tupI (xs : List Int) : cmpD .ne (.tup (xs.map .int)) (.tup []) = some (!decide (xs = [])) := by
  have e : (pureD 60 (.tup (xs.map .int)) && pureD 60 (.tup [])) = true := by
    show (pureL 59 (xs.map .int) && true) = true
    rw [pureL_ints]; rfl
  show (if (pureD 60 (.tup (xs.map .int)) && pureD 60 (.tup [])) = true then some (!eqD (.tup (xs.map .int)) (.tup [])) else none) = _
  rw [if_pos e]
  cases xs with
  | nil => rfl
  | cons x xs => simp [eqD, toPy, toPys, PyData.eqv, PyData.eqvAll]
theorem ne_lstS (xs : List Str) : cmpD .ne (.lst (xs.map .str)) (.lst []) = some (!decide (xs = [])) := by
  have e : (pureD 60 (.lst (xs.map .str)) && pureD 60 (.lst [])) = true := by
    show (pureL 59 (xs.map .str) && true) = true
    rw [pureL_strs]; rfl
  show (if (pureD 60 (.lst (xs.map .str)) && pureD 60 (.lst [])) = true then some (!eqD (.lst (xs.map .str)) (.lst [])) else none) = _
  rw [if_pos e]
  cases xs with
  | nil => rfl
  | cons x xs => simp [eqD, toPy, toPys, PyData.eqv, PyData.eqvAll]
theorem ixN_last {n : Nat} (h : 0 < n) : ixN n (-1) = some (n - 1) := by
  unfold ixN
  rw [if_neg (by omega), if_pos (by omega)]
  congr 1; omega
theorem ix_last {α : Type} {f : α → D} {xs : List α} {a : α} : ((ixN ((xs ++ [a]).map f).length (-1)).bind fun j => ((xs ++ [a]).map f)[j]?) = some (f a) := by
  rw [ixN_last (by simp), Option.bind_some]
  simp
def lastI : List Int → Int
  | [] => 0
  | x :: xs => (x :: xs).getLast (List.cons_ne_nil _ _)
def manyL (ns : List Int) : Int := if ns = [] then 0 else ns.getLastD 0 + 1
theorem many_lines_ok {w : Int} (hw : 1 ≤ w ∧ w ≤ 200) {ns : List Int} (hn : ns.length < sizeLine) (r : Rho) : f_many_lines [.lst (ns.map .int), .int w] r = .ok (.int (manyL (lns w ns))) r := by
  have h1 := line_numbers_ok hw hn r
  simp [f_many_lines, runF_eq, b_many_lines, startD, h1, ne_tupI, -ixD_tup, -ixD_lst]
  generalize lns w ns = ks
  by_cases hk : ks = []
  · subst hk
    simp [manyL]
  · rcases List.eq_nil_or_concat ks with z | ⟨l, a, rfl⟩
    · exact absurd z hk
    · have e0 : l.concat a = l ++ [a] := List.concat_eq_append ..
      rw [e0] at hk ⊢
      have e : ixD (.tup ((l ++ [a]).map D.int)) (.int (-1)) = some (.int a) := ix_last
      simp only [List.map_append, List.map_cons, List.map_nil] at e
      simp [manyL, e, -ixD_tup]
/-! ### the lines -/
def layS (w : Int) (L : List Str) (x : Str) : List Str := if L ≠ [] ∧ ((L.getLastD "").length : Int) + 1 + x.length ≤ w then L.dropLast ++ [L.getLastD "" ++ " " ++ x] else L ++ [x]
def lay (w : Int) (xs : List Str) : List Str := xs.foldl (layS w) []
def plA (w : Int) : List Str → List Str → List Int
  | _, [] => []
  | L, x :: xs => ((layS w L x).length - 1 : Int) :: plA w (layS w L x) xs
def lensI (xs : List Str) : List Int := xs.map fun x => (x.length : Int)
structure RL (L : List Str) (l u : Int) : Prop where
  z : L = [] → l = 0 ∧ u = 0
  p : L ≠ [] → l = L.length - 1 ∧ u = (L.getLastD "").length ∧ 1 ≤ (L.getLastD "").length
theorem getLastD_app (L : List Str) (x : Str) : (L ++ [x]).getLastD "" = x := by simp
theorem ne_app {L : List Str} {x : Str} : L ++ [x] ≠ [] := by simp
theorem len_dot (x y : Str) : ((x ++ " " ++ y).length : Int) = x.length + 1 + y.length := by
  rw [len_app, len_app]
  have : Str.length " " = 1 := rfl
  omega
theorem RL.step {w : Int} {L : List Str} {l u : Int} (h : RL L l u) {x : Str} (hx : 1 ≤ x.length) :
    (if 0 < u ∧ w < u + 1 + (x.length : Int) then (layS w L x = L ++ [x] ∧ L ≠ [] ∧ RL (layS w L x) (l + 1) x.length) else (((L = [] ∧ layS w L x = [x]) ∨ (L ≠ [] ∧ layS w L x = L.dropLast ++ [L.getLastD "" ++ " " ++ x])) ∧ RL (layS w L x) l (u + x.length + if 0 < u then 1 else 0))) := by
  by_cases hL : L = []
  · obtain ⟨rfl, rfl⟩ := h.z hL
    subst hL
    have e : layS w [] x = [x] := rfl
    rw [if_neg (by omega), e]
    refine ⟨.inl ⟨rfl, rfl⟩, ⟨fun z => by simp at z, fun _ => ⟨by simp, by simp, by simpa using hx⟩⟩⟩
  · obtain ⟨h1, h2, h3⟩ := h.p hL
    have hlen : 1 ≤ L.length := List.length_pos_iff.mpr hL
    by_cases hc : 0 < u ∧ w < u + 1 + (x.length : Int)
    · have e : layS w L x = L ++ [x] := if_neg fun z => by omega
      rw [if_pos hc, e]
      refine ⟨rfl, hL, ⟨fun z => absurd z ne_app, fun _ => ⟨?_, ?_, ?_⟩⟩⟩
      · simp; omega
      · rw [getLastD_app]
      · rw [getLastD_app]; exact hx
    · have e : layS w L x = L.dropLast ++ [L.getLastD "" ++ " " ++ x] := if_pos ⟨hL, by omega⟩
      rw [if_neg hc, e]
      refine ⟨.inr ⟨hL, rfl⟩, ⟨fun z => absurd z ne_app, fun _ => ⟨?_, ?_, ?_⟩⟩⟩
      · simp; omega
      · rw [getLastD_app, len_dot, if_pos (by omega)]; omega
      · rw [getLastD_app]
        have := len_dot (L.getLastD "") x
        omega
theorem ln_pl {w : Int} : ∀ (xs : List Str) (L : List Str) (l u : Int), (∀ x ∈ xs, 1 ≤ x.length) → RL L l u → lnA w l u (lensI xs) = plA w L xs
  | [], L, l, u, _, _ => rfl
  | x :: xs, L, l, u, hx, h => by
    have st := h.step (w := w) (hx x (List.mem_cons_self ..))
    show (if 0 < u ∧ w < u + 1 + (x.length : Int) then (l + 1) :: lnA w (l + 1) x.length (lensI xs) else l :: lnA w l (u + x.length + if 0 < u then 1 else 0) (lensI xs)) = ((layS w L x).length - 1 : Int) :: plA w (layS w L x) xs
    by_cases hc : 0 < u ∧ w < u + 1 + (x.length : Int)
    · rw [if_pos hc] at st ⊢
      obtain ⟨s1, s2, s3⟩ := st
      rw [ln_pl xs _ _ _ (fun y hy => hx y (List.mem_cons_of_mem _ hy)) s3]
      obtain ⟨h1, _⟩ := h.p s2
      congr 1
      rw [s1]; simp; omega
    · rw [if_neg hc] at st ⊢
      obtain ⟨s1, s3⟩ := st
      rw [ln_pl xs _ _ _ (fun y hy => hx y (List.mem_cons_of_mem _ hy)) s3]
      congr 1
      rcases s1 with ⟨z1, z2⟩ | ⟨z1, z2⟩
      · rw [z2]; simp; exact (h.z z1).1
      · rw [z2]
        have : 1 ≤ L.length := List.length_pos_iff.mpr z1
        obtain ⟨h1, _⟩ := h.p z1
        simp; omega
theorem RL.nil : RL [] 0 0 := ⟨fun _ => ⟨rfl, rfl⟩, fun z => absurd rfl z⟩
theorem lns_pl {w : Int} {xs : List Str} (hx : ∀ x ∈ xs, 1 ≤ x.length) : lns w (lensI xs) = plA w [] xs := ln_pl xs [] 0 0 hx .nil
theorem layS_ne {w : Int} {L : List Str} {x : Str} : layS w L x ≠ [] := by
  unfold layS
  split <;> simp
theorem plA_last {w : Int} : ∀ (xs : List Str) (L : List Str), xs ≠ [] → (plA w L xs).getLastD 0 = ((xs.foldl (layS w) L).length : Int) - 1
  | [], L, h => absurd rfl h
  | [x], L, _ => rfl
  | x :: y :: r, L, _ => by
    have ih := plA_last (w := w) (y :: r) (layS w L x) (List.cons_ne_nil _ _)
    rw [List.foldl_cons, ← ih]
    show ((_ : Int) :: (_ : Int) :: _).getLastD 0 = _
    rw [List.getLastD_cons]
    rfl
theorem manyL_lay {w : Int} {xs : List Str} (hx : ∀ x ∈ xs, 1 ≤ x.length) : manyL (lns w (lensI xs)) = (lay w xs).length := by
  rw [lns_pl hx]
  unfold manyL
  cases xs with
  | nil => rfl
  | cons x xs =>
    rw [if_neg (by simp [plA]), plA_last _ _ (List.cons_ne_nil _ _)]
    unfold lay; omega
/-! ### lines_of -/
def lfS (F : List Str) (p : Str × Int) : List Str := if p.2 = F.length then F ++ [p.1] else F.set p.2.toNat (F.getD p.2.toNat "" ++ " " ++ p.1)
def Vz : List (Str × Int) → List Str → Prop
  | [], _ => True
  | p :: ps, F => (p.2 = F.length ∨ (0 ≤ p.2 ∧ p.2 < F.length)) ∧ Vz ps (lfS F p)
theorem set_last {L : List Str} (h : L ≠ []) (y : Str) : L.set (L.length - 1) y = L.dropLast ++ [y] := by
  rcases List.eq_nil_or_concat L with z | ⟨l, a, rfl⟩
  · exact absurd z h
  · rw [List.concat_eq_append]
    simp
theorem getD_last {L : List Str} (h : L ≠ []) : L.getD (L.length - 1) "" = L.getLastD "" := by
  rcases List.eq_nil_or_concat L with z | ⟨l, a, rfl⟩
  · exact absurd z h
  · rw [List.concat_eq_append]
    simp
theorem lf_lay {w : Int} : ∀ (xs : List Str) (L : List Str) (l u : Int), (∀ x ∈ xs, 1 ≤ x.length) → RL L l u → Vz (xs.zip (lnA w l u (lensI xs))) L ∧ (xs.zip (lnA w l u (lensI xs))).foldl lfS L = xs.foldl (layS w) L
  | [], L, l, u, _, _ => ⟨trivial, rfl⟩
  | x :: xs, L, l, u, hx, h => by
    have st := h.step (w := w) (hx x (List.mem_cons_self ..))
    have e0 : lnA w l u (lensI (x :: xs)) = (if 0 < u ∧ w < u + 1 + (x.length : Int) then (l + 1) :: lnA w (l + 1) x.length (lensI xs) else l :: lnA w l (u + x.length + if 0 < u then 1 else 0) (lensI xs)) := rfl
    rw [e0]
    by_cases hc : 0 < u ∧ w < u + 1 + (x.length : Int)
    · rw [if_pos hc] at st ⊢
      obtain ⟨s1, s2, s3⟩ := st
      obtain ⟨i1, i2⟩ := lf_lay xs _ _ _ (fun y hy => hx y (List.mem_cons_of_mem _ hy)) s3
      obtain ⟨h1, _⟩ := h.p s2
      have e1 : l + 1 = (L.length : Int) := by omega
      have e2 : lfS L (x, l + 1) = layS w L x := by rw [s1]; exact if_pos e1
      rw [List.zip_cons_cons, List.foldl_cons, List.foldl_cons, e2]
      refine ⟨⟨.inl e1, ?_⟩, i2⟩
      rw [e2]; exact i1
    · rw [if_neg hc] at st ⊢
      obtain ⟨s1, s3⟩ := st
      obtain ⟨i1, i2⟩ := lf_lay xs _ _ _ (fun y hy => hx y (List.mem_cons_of_mem _ hy)) s3
      rw [List.zip_cons_cons, List.foldl_cons, List.foldl_cons]
      rcases s1 with ⟨z1, z2⟩ | ⟨z1, z2⟩
      · have e1 : l = (L.length : Int) := by rw [z1]; exact (h.z z1).1
        have e2 : lfS L (x, l) = layS w L x := by
          rw [z2]
          have : lfS L (x, l) = L ++ [x] := if_pos e1
          rw [this, z1]; rfl
        rw [e2]
        refine ⟨⟨.inl e1, ?_⟩, i2⟩
        rw [e2]; exact i1
      · have hp : 1 ≤ L.length := List.length_pos_iff.mpr z1
        obtain ⟨h1, _⟩ := h.p z1
        have e2 : lfS L (x, l) = layS w L x := by
          rw [z2]
          have e3 : l.toNat = L.length - 1 := by omega
          have : lfS L (x, l) = L.set l.toNat (L.getD l.toNat "" ++ " " ++ x) := if_neg (by show ¬ l = (L.length : Int); omega)
          rw [this, e3, getD_last z1, set_last z1]
        rw [e2]
        refine ⟨⟨.inr ⟨?_, ?_⟩, ?_⟩, i2⟩
        · show 0 ≤ l; omega
        · show l < (L.length : Int); omega
        · rw [e2]; exact i1
def szP (ps : List (Str × Int)) : Nat := (ps.map fun p => p.1.length + 1).sum
structure LfP (ps : List (Str × Int)) (F : List Str) : Prop where
  v : Vz ps F
  l : F.length + ps.length < sizeLine
  s : szP ps ≤ sizeLine
  b : ∀ y ∈ F, y.length + szP ps ≤ sizeLine
theorem szP_cons (p : Str × Int) (ps : List (Str × Int)) : szP (p :: ps) = p.1.length + 1 + szP ps := by simp [szP]
theorem LfP.next {p : Str × Int} {ps : List (Str × Int)} {F : List Str} (h : LfP (p :: ps) F) : LfP ps (lfS F p) := by
  obtain ⟨v, l, s, b⟩ := h
  rw [szP_cons] at s b
  have hl : F.length + (ps.length + 1) < sizeLine := l
  refine ⟨v.2, ?_, by omega, fun y hy => ?_⟩
  · unfold lfS
    split
    · rw [List.length_append]; show F.length + 1 + ps.length < sizeLine; omega
    · rw [List.length_set]; omega
  · unfold lfS at hy
    split at hy
    · rcases List.mem_append.mp hy with h | h
      · have := b y h; omega
      · rw [List.mem_singleton.mp h]; omega
    · rcases List.mem_or_eq_of_mem_set hy with h | rfl
      · have := b y h; omega
      · rw [len_app, len_app]
        have e1 : Str.length " " = 1 := rfl
        rcases v.1 with z | ⟨z1, z2⟩
        · rename_i hne; exact absurd z hne
        · have hlt : p.2.toNat < F.length := by omega
          have : F.getD p.2.toNat "" ∈ F := by
            rw [List.getD_eq_getElem?_getD, List.getElem?_eq_getElem hlt]
            exact List.getElem_mem _
          have := b _ this
          omega
theorem lines_of_ok {w : Int} (hw : 1 ≤ w ∧ w ≤ 200) {xs : List Str} (hx : ∀ x ∈ xs, 1 ≤ x.length) (hl : xs.length < sizeLine) (hs : (xs.map fun x => x.length + 1).sum ≤ sizeLine) (r : Rho) : f_lines_of [.tup (xs.map .str), .int w] r = .ok (.tup ((lay w xs).map .str)) r := by
  have h1 := line_numbers_ok hw (ns := lensI xs) (by unfold lensI; simpa using hl) r
  obtain ⟨v1, v2⟩ := lf_lay (w := w) xs [] 0 0 hx .nil
  have hc : ev (.comp [("token", 3)] (.nm 3) (.var 0) none (.bi .len (.cons (.var 3) .nil))) [.val (.tup (xs.map .str)), .val (.int w), .own [], .un, .un] r = .ok (.lst ((lensI xs).map .int)) r := by
    rw [comp_as (as := xs) (f := D.str) (g := fun x => .int (x.length : Int)) (.tup (xs.map .str)) (by simp) rfl (fun x _ => ⟨_, by simp; rfl, by simp⟩)]
    unfold lensI; rw [List.map_map]; rfl
  simp [f_lines_of, runF_eq, b_lines_of, startD]
  rw [hc]
  simp only [Rs.bind_ok, hCons_tup, hTup_tup, h1, lift_map_some, Option.map_some, Option.bind_some, seqD_tup, zipL_map, iterD_lst, Rs.lift, hOpt_some, ev_nil]
  refine (congrArg (fun x => (Rs.bind x _).bind _) (forR_fold (α := Str × Int) (β := List Str) (enc := fun p => .tup [.str p.1, .int p.2]) (step := lfS) (st := fun F => [.val (.tup (xs.map .str)), .val (.int w), .own (F.map .str), .un, .un]) (P := LfP) ?_ (xs.zip (lns w (lensI xs))) [] ?_)).trans ?_
  · intro p rest F hp
    have hq := hp.next
    by_cases hc : p.2 = F.length
    · have e : lfS F p = F ++ [p.1] := if_pos hc
      have hl : F.length < sizeLine := by have := hp.l; rw [List.length_cons] at this; omega
      refine ⟨_, by simp [hc, hl]; rfl, by rw [e]; simp, hq⟩
    · obtain ⟨z1, z2⟩ : 0 ≤ p.2 ∧ p.2 < F.length := hp.v.1.resolve_left hc
      have e : lfS F p = F.set p.2.toNat (F.getD p.2.toNat "" ++ " " ++ p.1) := if_neg hc
      have e1 : ixN F.length p.2 = some p.2.toNat := ixN_pos z1 (by omega)
      have hlt : p.2.toNat < F.length := by omega
      have e2 : F[p.2.toNat]? = some (F.getD p.2.toNat "") := by rw [List.getD_eq_getElem?_getD, List.getElem?_eq_getElem hlt]; rfl
      have hm : F.getD p.2.toNat "" ∈ F := List.mem_of_getElem? e2
      obtain ⟨y, hy⟩ : ∃ y, F.getD p.2.toNat "" = y := ⟨_, rfl⟩
      rw [hy] at e e2 hm
      have hb := hp.b _ hm
      rw [szP_cons] at hb
      have hs1 : (" " : Str).length = 1 := rfl
      have e3 : opD .add (.str y) (.str " ") = some (.str (y ++ " ")) := opD_addS (by omega)
      have e4 : opD .add (.str (y ++ " ")) (.str p.1) = some (.str (y ++ " " ++ p.1)) := opD_addS (by rw [len_app]; omega)
      refine ⟨_, by simp [evS_put, hc, e1, e2, e3, e4]; rfl, by rw [e]; simp [List.map_set], hq⟩
  · refine ⟨v1, ?_, ?_, fun y hy => by cases hy⟩
    · show 0 + (xs.zip (lns w (lensI xs))).length < sizeLine
      rw [List.length_zip, Nat.zero_add]; omega
    · refine Nat.le_trans (Nat.le_of_eq ?_) hs
      have hlen : xs.length ≤ (lns w (lensI xs)).length := by unfold lns; rw [lnA_length]; unfold lensI; simp
      unfold szP
      have : (xs.zip (lns w (lensI xs))).map (fun p => p.1.length + 1) = xs.map fun x => x.length + 1 := by
        have : (fun p : Str × Int => p.1.length + 1) = (fun x : Str => x.length + 1) ∘ Prod.fst := rfl
        rw [this, ← List.map_map, List.map_fst_zip hlen]
      rw [this]
  · have : (xs.zip (lns w (lensI xs))).foldl lfS [] = lay w xs := v2
    rw [this]
    simp
end LW
set_option linter.all false
set_option maxRecDepth 100000
set_option maxHeartbeats 0
namespace LW
open PySem DI DQ
/-! ### an entry's lines -/
def elN (n w : Int) : Int := if (n + w - 1) / w > 1 then (n + w - 1) / w else 1
theorem entry_lines_ok {n w : Int} (hw : 1 ≤ w ∧ w ≤ 200) (r : Rho) : f_entry_lines [.int n, .int w] r = .ok (.int (elN n w)) r := by
  simp [f_entry_lines, runF_eq, b_entry_lines, startD, DQ.opD_fdiv (i := n + w - 1) (j := w) ⟨by omega, by omega⟩, elN]
def brN (x : Str) (w : Int) : Nat := (((x.length : Int) - 0 + w - 1) / w).toNat
def brk (x : Str) (w : Int) : List Str := (List.range (brN x w)).map fun k => L2.cutS x (some (w * (k : Nat))) (some (w * (k : Nat) + w))
theorem elN_brN {x : Str} {w : Int} (hx : 1 ≤ x.length) (hw : 1 ≤ w) : elN x.length w = (brN x w : Int) ∧ 1 ≤ brN x w ∧ brN x w ≤ x.length := by
  have e : (x.length : Int) - 0 + w - 1 = x.length + w - 1 := by omega
  have e1 : (x.length : Int) + w - 1 = ((x.length : Int) - 1) + 1 * w := by omega
  have e2 : ((x.length : Int) + w - 1) / w = ((x.length : Int) - 1) / w + 1 := by rw [e1, Int.add_mul_ediv_right _ _ (by omega)]
  have e3 : 0 ≤ ((x.length : Int) - 1) / w := Int.ediv_nonneg (by omega) (by omega)
  have e4 : ((x.length : Int) - 1) / w ≤ (x.length : Int) - 1 := Int.ediv_le_self _ (by omega)
  unfold elN brN
  rw [e, e2]
  split <;> omega
theorem broken_ok {x : Str} {w : Int} (hw : 1 ≤ w ∧ w ≤ 200) (hx : 1 ≤ x.length) (hl : x.length ≤ 1000000) (r : Rho) : f_broken [.str x, .int w] r = .ok (.tup ((brk x w).map .str)) r := by
  obtain ⟨e1, e2, e3⟩ := elN_brN hx hw.1
  have h1 := need_width_ok hw r
  have h2 := entry_lines_ok (n := x.length) hw r
  rw [e1] at h2
  have hr : ∀ r, hRng1 (.int (brN x w : Int)) r = .ok (.lst (rngL 0 (brN x w))) r := fun r => by
    rw [hRng1_ok (by omega) (by omega)]; simp
  have c1 : ev (.comp [("place", 3)] (.nm 3) (.rng1 (.call "entry_lines" f_entry_lines (.cons (.bi .len (.cons (.var 0) .nil)) (.cons (.var 1) .nil)))) none (.op .mul (.var 1) (.var 3))) [.val (.str x), .val (.int w), .un, .un, .un] r
      = .ok (.lst ((List.range (brN x w)).map fun k => .int (w * (k : Nat)))) r := by
    refine comp_as (as := List.range (brN x w)) (f := fun k => .int (0 + (k : Nat))) (.lst (rngL 0 (brN x w))) (by simp [h2, hr, -hRng1_int]) rfl fun k hk => ?_
    have hk := List.mem_range.mp hk
    exact ⟨_, by simp; rfl, by simp [DQ.opD_mul (i := w) (j := (k : Int)) ⟨by omega, by omega⟩]⟩
  simp [f_broken, runF_eq, b_broken, startD, h1]
  rw [c1]
  simp
  rw [comp_as (as := List.range (brN x w)) (f := fun k => .int (w * (k : Nat))) (g := fun k => .str (L2.cutS x (some (w * (k : Nat))) (some (w * (k : Nat) + w)))) (.lst ((List.range (brN x w)).map fun k => .int (w * (k : Nat)))) (by simp) rfl (fun k hk => ⟨_, by simp; rfl, by simp⟩)]
  simp [brk]
theorem law_broken_ok {x : Str} {w : Int} (hw : 1 ≤ w ∧ w ≤ 200) (hl : x.length ≤ 1000000) (r : Rho) : f__law_broken [.str x, .int w] r = .ok (.lst ((brk x w).map .str)) r := by
  simp [f__law_broken, runF_eq, b__law_broken, startD]
  rw [comp_as (as := List.range (brN x w)) (f := fun k => .int (0 + (k : Nat) * w)) (g := fun k => .str (L2.cutS x (some (w * (k : Nat))) (some (w * (k : Nat) + w)))) (.lst (rngC 0 w (brN x w)))
    (ev_rng3 (by simp) (by simp) (by simp) ⟨by omega, by omega, by omega, by omega, by omega, by omega, by omega⟩) rfl (fun k hk => ⟨_, by simp; rfl, by
      have : (0 : Int) + (k : Nat) * w = w * (k : Nat) := by rw [Int.zero_add, Int.mul_comm]
      simp [Int.mul_comm]⟩)]
  simp [brk]
/-! ### the starts of entries -/
def stA (w : Int) : Int → List Int → List Int
  | _, [] => []
  | l, n :: ns => l :: stA w (l + elN n w) ns
theorem entry_starts_ok {w f : Int} (hw : 1 ≤ w ∧ w ≤ 200) {ns : List Int} (hn : ns.length < sizeLine) (r : Rho) : f_entry_starts [.lst (ns.map .int), .int w, .int f] r = .ok (.tup ((stA w f ns).map .int)) r := by
  have h1 := need_width_ok hw r
  simp [f_entry_starts, runF_eq, b_entry_starts, startD, h1, setTs]
  refine (congrArg (fun x => (Rs.bind x _).bind _) (forR_fold (α := Int) (β := List Int × Int) (enc := D.int) (step := fun b n => (b.1 ++ [b.2], b.2 + elN n w)) (st := fun b => [.val (.lst (ns.map .int)), .val (.int w), .val (.int f), .un, .own (b.1.map .int), .val (.int b.2)]) (P := fun as b => b.1.length + as.length < sizeLine) ?_ ns ([], f) ?_)).trans ?_
  · intro n rest b hp
    have hp : b.1.length + (rest.length + 1) < sizeLine := hp
    have hp1 : b.1.length < sizeLine := by omega
    have h2 := fun r => entry_lines_ok (n := n) hw r
    refine ⟨_, by simp [hp1, evS_aug, h2]; rfl, by simp, ?_⟩
    show (b.1 ++ [b.2]).length + rest.length < sizeLine
    rw [List.length_append]; show b.1.length + 1 + rest.length < sizeLine; omega
  · show 0 + ns.length < sizeLine
    omega
  · have : ∀ (ns : List Int) (b : List Int × Int), (ns.foldl (fun (b : List Int × Int) n => (b.1 ++ [b.2], b.2 + elN n w)) b).1 = b.1 ++ stA w b.2 ns := by
      intro ns
      induction ns with
      | nil => intro b; simp [stA]
      | cons n ns ih => intro b; rw [List.foldl_cons, ih, stA]; simp
    simp [this]
/-! ### pages -/
def pgN (n : Nat) (h : Int) : Nat := (((n : Int) - 0 + h - 1) / h).toNat
def pagesD (ds : List D) (h : Int) : List D := (List.range (pgN ds.length h)).map fun k => .tup (cutL ds (some ((k : Nat) * h)) (some ((k : Nat) * h + h)))
theorem on_pages_ok {ds : List D} {h : Int} (hh : 1 ≤ h ∧ h ≤ 100) (hl : ds.length ≤ 1000000) (r : Rho) : f_on_pages [.tup ds, .int h] r = .ok (.tup (pagesD ds h)) r := by
  have h1 := page_of_line_ok (l := 0) hh r
  have h2 : biD .lrng3 [.int 0, .int ds.length, .int h] = some (.lst (rngC 0 h (pgN ds.length h))) := biD_lrng3 ⟨by omega, by omega, by omega, by omega, by omega, by omega, by omega⟩
  simp [f_on_pages, runF_eq, b_on_pages, startD, h1, h2]
  rw [comp_as (as := List.range (pgN ds.length h)) (f := fun k => .int (0 + (k : Nat) * h)) (g := fun k => .tup (cutL ds (some ((k : Nat) * h)) (some ((k : Nat) * h + h)))) (.lst (rngC 0 h (pgN ds.length h))) (by simp) rfl (fun k hk => ⟨_, by simp; rfl, by simp⟩)]
  simp [pagesD]
/-! ### the law's lines -/
abbrev LyS := List Str × List Int
def lyS (w : Int) (b : LyS) (x : Str) : LyS := (layS w b.1 x, b.2 ++ [((layS w b.1 x).length : Int) - 1])
theorem lyS_fold (w : Int) : ∀ (xs : List Str) (L : List Str) (P : List Int), xs.foldl (lyS w) (L, P) = (xs.foldl (layS w) L, P ++ plA w L xs)
  | [], L, P => by simp [plA]
  | x :: xs, L, P => by
    rw [List.foldl_cons, List.foldl_cons]
    show xs.foldl (lyS w) (layS w L x, P ++ [_]) = _
    rw [lyS_fold, List.append_assoc]
    rfl
def szX (xs : List Str) : Nat := (xs.map fun x => x.length + 1).sum
theorem szX_cons (x : Str) (xs : List Str) : szX (x :: xs) = x.length + 1 + szX xs := by simp [szX]
structure LyP (xs : List Str) (b : LyS) : Prop where
  l : b.1.length + xs.length < sizeLine
  l2 : b.2.length + xs.length < sizeLine
  s : szX xs ≤ sizeLine
  b : ∀ y ∈ b.1, y.length + szX xs ≤ sizeLine
theorem LyP.next {w : Int} {x : Str} {xs : List Str} {b : LyS} (h : LyP (x :: xs) b) : LyP xs (lyS w b x) := by
  obtain ⟨l, l2, s, hb⟩ := h
  rw [szX_cons] at s hb
  have hl : b.1.length + (xs.length + 1) < sizeLine := l
  have hl2 : b.2.length + (xs.length + 1) < sizeLine := l2
  refine ⟨?_, ?_, by omega, fun y hy => ?_⟩
  · show (layS w b.1 x).length + xs.length < sizeLine
    unfold layS
    split
    · rename_i hc
      have : 1 ≤ b.1.length := List.length_pos_iff.mpr hc.1
      rw [List.length_append, List.length_dropLast]; show b.1.length - 1 + 1 + xs.length < sizeLine; omega
    · rw [List.length_append]; show b.1.length + 1 + xs.length < sizeLine; omega
  · show (b.2 ++ [_]).length + xs.length < sizeLine
    rw [List.length_append]; show b.2.length + 1 + xs.length < sizeLine; omega
  · have hy : y ∈ layS w b.1 x := hy
    unfold layS at hy
    split at hy
    · rename_i hc
      rcases List.mem_append.mp hy with h | h
      · have := hb y (List.dropLast_subset _ h); omega
      · rw [List.mem_singleton.mp h, len_app, len_app]
        have e1 : Str.length " " = 1 := rfl
        have hm : b.1.getLastD "" ∈ b.1 := by
          rw [List.getLastD_eq_getLast?, List.getLast?_eq_some_getLast hc.1]
          exact List.getLast_mem hc.1
        have := hb _ hm
        omega
    · rcases List.mem_append.mp hy with h | h
      · have := hb y h; omega
      · rw [List.mem_singleton.mp h]; omega
theorem cut_init {α : Type} {f : α → D} {xs : List α} : cutL (xs.map f) none (some (-1)) = xs.dropLast.map f := by
  unfold cutL
  have e1 : HT.sIx (xs.map f).length 0 none = 0 := rfl
  have e2 : HT.sIx (xs.map f).length (xs.map f).length (some (-1)) = (xs.map f).length - 1 := by
    unfold HT.sIx
    simp
    omega
  rw [e1, e2, List.drop_zero, Nat.sub_zero, List.length_map, List.dropLast_eq_take, List.map_take]
theorem ix_lastL {xs : List Str} (h : xs ≠ []) : ixD (.lst (xs.map D.str)) (.int (-1)) = some (.str (xs.getLastD "")) := by
  rcases List.eq_nil_or_concat xs with z | ⟨l, a, rfl⟩
  · exact absurd z h
  · rw [List.concat_eq_append]
    have : ixD (.lst ((l ++ [a]).map D.str)) (.int (-1)) = some (.str a) := ix_last
    rw [this, getLastD_app]
theorem law_lay_ok {w : Int} {xs : List Str} (hl : xs.length < sizeLine) (hs : szX xs ≤ sizeLine) (r : Rho) : f__law_lay [.lst (xs.map .str), .int w] r = .ok (.tup [.lst ((lay w xs).map .str), .lst ((plA w [] xs).map .int)]) r := by
  simp [f__law_lay, runF_eq, b__law_lay, startD, setTs]
  refine (congrArg (fun x => (Rs.bind x _).bind _) (forR_fold (α := Str) (β := LyS) (enc := D.str) (step := lyS w) (st := fun b => [.val (.lst (xs.map .str)), .val (.int w), .un, .val (.lst (b.1.map .str)), .val (.lst (b.2.map .int))]) (P := LyP) ?_ xs ([], []) ?_)).trans ?_
  · intro x rest b hp
    have hq := hp.next (w := w)
    obtain ⟨L, P⟩ := b
    obtain ⟨l1, l2, l3, l4⟩ := hp
    rw [szX_cons] at l3 l4
    have l1 : L.length + (rest.length + 1) < sizeLine := l1
    have l2 : P.length + (rest.length + 1) < sizeLine := l2
    have l4 : ∀ y ∈ L, y.length + (x.length + 1 + szX rest) ≤ sizeLine := l4
    have hs1 : (" " : Str).length = 1 := rfl
    have a1 : ∀ z : Int, opD .add (.lst (P.map D.int)) (.lst [.int z]) = some (.lst ((P ++ [z]).map D.int)) := fun z => by
      rw [opD_addL (by simp; omega)]; simp
    by_cases hL : L = []
    · subst hL
      have e : lyS w ([], P) x = ([x], P ++ [0]) := rfl
      have a2 : opD .add (.lst []) (.lst [.str x]) = some (.lst [.str x]) := by rw [opD_addL (by simp; omega)]; rfl
      have n0 : cmpD .ne (.lst []) (.lst []) = some false := rfl
      have a3 := a1 0
      rw [List.map_append] at a3
      refine ⟨_, by simp [n0, a2, a3]; rfl, by rw [e]; simp, hq⟩
    · have hm : L.getLastD "" ∈ L := by
        rw [List.getLastD_eq_getLast?, List.getLast?_eq_some_getLast hL]
        exact List.getLast_mem hL
      have hb := l4 _ hm
      have i1 := ix_lastL hL
      have n1 := ne_lstS L
      rw [decide_eq_false hL] at n1
      have hlen : 1 ≤ L.length := List.length_pos_iff.mpr hL
      obtain ⟨y, hy⟩ : ∃ y, L.getLastD "" = y := ⟨_, rfl⟩
      rw [hy] at i1 hb
      have s1 : opD .add (.str y) (.str " ") = some (.str (y ++ " ")) := opD_addS (by omega)
      have s2 : opD .add (.str (y ++ " ")) (.str x) = some (.str (y ++ " " ++ x)) := opD_addS (by rw [len_app]; omega)
      have hd := len_dot y x
      by_cases hc : (y.length : Int) + 1 + x.length ≤ w
      · have e0 : layS w L x = L.dropLast ++ [y ++ " " ++ x] := by
          have : layS w L x = L.dropLast ++ [L.getLastD "" ++ " " ++ x] := if_pos ⟨hL, by rw [hy]; exact hc⟩
          rw [this, hy]
        have e : lyS w (L, P) x = (L.dropLast ++ [y ++ " " ++ x], P ++ [(L.length : Int) - 1]) := by
          show (layS w L x, P ++ [((layS w L x).length : Int) - 1]) = _
          rw [e0]
          congr 3
          simp; omega
        have hc2 : ((y ++ " " ++ x).length : Int) ≤ w := by rw [hd]; exact hc
        have c1 : cutL (L.map D.str) none (some (-1)) = L.dropLast.map D.str := cut_init
        have a2 : opD .add (.lst (L.dropLast.map D.str)) (.lst [.str (y ++ " " ++ x)]) = some (.lst ((L.dropLast ++ [y ++ " " ++ x]).map D.str)) := by rw [opD_addL (by simp; omega)]; simp
        have a3 := a1 ((L.length : Int) - 1)
        have hl3 : ((L.dropLast ++ [y ++ " " ++ x]).map D.str).length = L.length := by simp; omega
        obtain ⟨M, hM⟩ : ∃ M, (L.dropLast ++ [y ++ " " ++ x]).map D.str = M := ⟨_, rfl⟩
        rw [hM] at a2 hl3
        rw [List.map_dropLast] at a2 c1
        refine ⟨_, by simp [n1, i1, s1, s2, hc2, c1, a2, hl3, a3, -ixD_lst, -List.map_append]; rfl, by rw [e, hM]; simp, hq⟩
      · have e0 : layS w L x = L ++ [x] := if_neg fun z => hc (by rw [← hy]; exact z.2)
        have e : lyS w (L, P) x = (L ++ [x], P ++ [(L.length : Int)]) := by
          show (layS w L x, P ++ [((layS w L x).length : Int) - 1]) = _
          rw [e0]
          congr 3
          simp
        have hc2 : ¬ ((y ++ " " ++ x).length : Int) ≤ w := by rw [hd]; exact hc
        have a2 : opD .add (.lst (L.map D.str)) (.lst [.str x]) = some (.lst ((L ++ [x]).map D.str)) := by rw [opD_addL (by simp; omega)]; simp
        have a3 := a1 (L.length : Int)
        have hl3 : (((L ++ [x]).map D.str).length : Int) - 1 = L.length := by simp
        obtain ⟨M, hM⟩ : ∃ M, (L ++ [x]).map D.str = M := ⟨_, rfl⟩
        rw [hM] at a2 hl3
        refine ⟨_, by simp [n1, i1, s1, s2, hc2, a2, hl3, a3, -ixD_lst, -List.map_append]; rfl, by rw [e, hM]; simp, hq⟩
  · exact ⟨by show 0 + xs.length < sizeLine; omega, by show 0 + xs.length < sizeLine; omega, hs, fun y hy => by cases hy⟩
  · rw [lyS_fold]
    simp [lay]
end LW
set_option linter.all false
set_option maxRecDepth 100000
set_option maxHeartbeats 1000000
namespace LW
open PySem DI DQ
def u0b0 : S := (.set (.nm 5) (.bi .tuple (.cons (.comp [("k", 18)] (.nm 18) (.rng1 (.call "_law_taken" f__law_taken (.cons (.var 1) (.cons (.int 14) .nil)))) none (.call "_law_pick" f__law_pick (.cons (.var 1) (.cons (.lst (.cons (.str "a") (.cons (.str "bc") (.cons (.str "a b") (.cons (.str "longer") (.cons (.str "(x; y)") (.cons (.str "@12") (.cons (.str "verylongword") .nil)))))))) .nil)))) .nil)))
def u0b1 : S := (.set (.tup (.cons (.nm 12) (.cons (.nm 13) (.cons (.nm 14) .nil)))) (.tup (.cons (.op .add (.int 1) (.call "_law_taken" f__law_taken (.cons (.var 1) (.cons (.int 20) .nil)))) (.cons (.op .add (.int 1) (.call "_law_taken" f__law_taken (.cons (.var 1) (.cons (.int 6) .nil)))) (.cons (.call "_law_taken" f__law_taken (.cons (.var 1) (.cons (.int 9) .nil))) .nil)))))
def u0b2 : S := (.set (.tup (.cons (.nm 15) (.cons (.nm 16) .nil))) (.call "_law_lay" f__law_lay (.cons (.bi .list (.cons (.var 5) .nil)) (.cons (.var 12) .nil))))
def u0b3 : S := (.set (.nm 6) (.comp [("token", 17)] (.nm 17) (.var 5) none (.bi .len (.cons (.var 17) .nil))))
def u0b4 : S := (.ifs (.not (.call "_law_alike" f__law_alike (.cons (.tup (.cons (.call "line_numbers" f_line_numbers (.cons (.var 6) (.cons (.var 12) .nil))) (.cons (.call "many_lines" f_many_lines (.cons (.var 6) (.cons (.var 12) .nil))) (.cons (.call "lines_of" f_lines_of (.cons (.var 5) (.cons (.var 12) .nil))) .nil)))) (.cons (.tup (.cons (.bi .tuple (.cons (.var 16) .nil)) (.cons (.bi .len (.cons (.var 15) .nil)) (.cons (.bi .tuple (.cons (.var 15) .nil)) .nil)))) .nil)))) (.cons (.ret (.bl false)) .nil) .nil)
def u0b5 : S := (.set (.nm 7) (.comp [("token", 17)] (.nm 17) (.var 5) none (.call "_law_broken" f__law_broken (.cons (.var 17) (.cons (.var 12) .nil)))))
def u0b6 : S := (.set (.nm 8) (.bi .tuple (.cons (.comp [("k", 18)] (.nm 18) (.rng1 (.bi .len (.cons (.var 5) .nil))) none (.op .add (.var 14) (.bi .sum (.cons (.comp [("one", 20)] (.nm 20) (.sl (.var 7) none (some (.var 18))) none (.bi .len (.cons (.var 20) .nil))) .nil)))) .nil)))
def u0b7 : S := (.ifs (.or (.not (.call "_law_alike" f__law_alike (.cons (.call "entry_starts" f_entry_starts (.cons (.var 6) (.cons (.var 12) (.cons (.var 14) .nil)))) (.cons (.var 8) .nil)))) (.not (.call "_law_alike" f__law_alike (.cons (.comp [("token", 17)] (.nm 17) (.var 5) none (.call "broken" f_broken (.cons (.var 17) (.cons (.var 12) .nil)))) (.cons (.comp [("one", 20)] (.nm 20) (.var 7) none (.bi .tuple (.cons (.var 20) .nil))) .nil))))) (.cons (.ret (.bl false)) .nil) .nil)
def u0b8 : S := (.set (.nm 9) (.bi .tuple (.cons (.comp [("k", 18)] (.nm 18) (.rng3 (.int 0) (.bi .len (.cons (.var 15) .nil)) (.var 13)) none (.bi .tuple (.cons (.sl (.var 15) (some (.var 18)) (some (.op .add (.var 18) (.var 13)))) .nil))) .nil)))
def u0b9 : S := (.ifs (.not (.call "_law_alike" f__law_alike (.cons (.call "on_pages" f_on_pages (.cons (.bi .tuple (.cons (.var 15) .nil)) (.cons (.var 13) .nil))) (.cons (.var 9) .nil)))) (.cons (.ret (.bl false)) .nil) .nil)
def u0b10 : S := (.ifs (.cmp .ne (.comp [("k", 18)] (.nm 18) (.rng1 (.bi .len (.cons (.var 15) .nil))) (some (.or (.isin true (.ix (.var 15) (.var 18)) (.ix (.var 9) (.op .sub (.call "page_of_line" f_page_of_line (.cons (.var 18) (.cons (.var 13) .nil))) (.int 1)))) (.cmp .ne (.call "page_of_line" f_page_of_line (.cons (.var 18) (.cons (.var 13) .nil))) (.op .add (.op .fdiv (.var 18) (.var 13)) (.int 1))))) (.var 18)) (.lst .nil)) (.cons (.ret (.bl false)) .nil) .nil)
def u0 : S := (.fors (.nm 2) (.rng1 (.int 5)) (.cons u0b0 (.cons u0b1 (.cons u0b2 (.cons u0b3 (.cons u0b4 (.cons u0b5 (.cons u0b6 (.cons u0b7 (.cons u0b8 (.cons u0b9 (.cons u0b10 .nil))))))))))) [2, 5, 6, 7, 8, 9, 12, 13, 14, 15, 16, 17, 18, 20])
def u1 : S := (.set (.tup (.cons (.nm 10) (.cons (.nm 11) .nil))) (.tup (.cons (.call "_law_pick" f__law_pick (.cons (.var 1) (.cons (.lst (.cons (.int 0) (.cons (.int 201) (.cons (.neg (.int 1)) (.cons .non (.cons (.bl true) (.cons (.str "3") .nil))))))) .nil))) (.cons (.call "_law_pick" f__law_pick (.cons (.var 1) (.cons (.lst (.cons (.int 0) (.cons (.int 101) (.cons (.neg (.int 1)) (.cons .non (.cons (.bl true) (.cons (.str "3") .nil))))))) .nil))) .nil))))
def u2 : S := (.set (.nm 3) (.lst (.cons (.clam 204 t_204) (.cons (.clam 203 t_203) (.cons (.clam 202 t_202) (.cons (.clam 201 t_201) (.cons (.clam 200 t_200) .nil)))))))
def u3 : S := (.set (.nm 4) (.lst (.cons (.clam 206 t_206) (.cons (.clam 205 t_205) .nil))))
def u4 : S := (.ret (.and (.gcall "_law_same" f__law_same (.cons (.tells 3 19 [204, 203, 202, 201, 200] [("call", 19)] (.cons (.told "_law_told" nsT t_204) (.cons (.told "_law_told" nsT t_203) (.cons (.told "_law_told" nsT t_202) (.cons (.told "_law_told" nsT t_201) (.cons (.told "_law_told" nsT t_200) .nil)))))) (.cons (.op .mul (.lst (.cons (.tup (.cons (.str "BadNumber") (.cons (.var 10) .nil))) .nil)) (.int 5)) .nil))) (.gcall "_law_same" f__law_same (.cons (.tells 4 19 [206, 205] [("call", 19)] (.cons (.told "_law_told" nsT t_206) (.cons (.told "_law_told" nsT t_205) .nil))) (.cons (.op .mul (.lst (.cons (.tup (.cons (.str "BadNumber") (.cons (.var 11) .nil))) .nil)) (.int 2)) .nil)))))
theorem b_law_eq : b_law = (.cons u0 (.cons u1 (.cons u2 (.cons u3 (.cons u4 .nil))))) := rfl
def body7 : S := (.cons u0b0 (.cons u0b1 (.cons u0b2 (.cons u0b3 (.cons u0b4 (.cons u0b5 (.cons u0b6 (.cons u0b7 (.cons u0b8 (.cons u0b9 (.cons u0b10 .nil)))))))))))
def inS : St := [.un, .val .row, .un, .un, .un, .un, .un, .un, .un, .un, .un, .un, .un, .un, .un, .un, .un, .un, .un, .un, .un]
def sg (d2 : D) (xs : List Str) (w h f : Int) (a6 a7 a8 a9 a15 a16 : Slot) : St := [.un, .val .row, .val d2, .un, .un, .val (.tup (xs.map .str)), a6, a7, a8, a9, .un, .un, .val (.int w), .val (.int h), .val (.int f), a15, a16, .un, .un, .un, .un]
def TkOk (x : Str) : Prop := 1 ≤ x.length ∧ x.length ≤ 12
structure Dr (xs : List Str) (w h f : Int) : Prop where
  t : ∀ x ∈ xs, TkOk x
  n : xs.length ≤ 13
  w : 1 ≤ w ∧ w ≤ 200
  h : 1 ≤ h ∧ h ≤ 100
section
variable {d2 : D} {xs : List Str} {w h f : Int} {a6 a7 a8 a9 a15 a16 : Slot} {r : Rho}
theorem sz_small (hd : Dr xs w h f) : szX xs ≤ 1000 ∧ xs.length < sizeLine ∧ szX xs ≤ sizeLine := by
  have h1 : ∀ ys : List Str, (∀ x ∈ ys, TkOk x) → szX ys ≤ 13 * ys.length := by
    intro ys
    induction ys with
    | nil => intro _; exact Nat.le_refl _
    | cons y ys ih =>
      intro hy
      rw [szX_cons, List.length_cons]
      have := ih fun z hz => hy z (List.mem_cons_of_mem _ hz)
      have := (hy y (List.mem_cons_self ..)).2
      omega
  have h2 := h1 xs hd.t
  have h3 := hd.n
  have : (16777216 : Nat) ≤ sizeLine := by rw [sizeLine_eq]; decide
  omega
theorem u2_ok (hd : Dr xs w h f) : evS u0b2 (sg d2 xs w h f a6 a7 a8 a9 a15 a16) r = .ok (.nx (sg d2 xs w h f a6 a7 a8 a9 (.val (.lst ((lay w xs).map .str))) (.val (.lst ((plA w [] xs).map .int))))) r := by
  obtain ⟨_, s1, s2⟩ := sz_small hd
  have h1 := fun r => law_lay_ok (w := w) s1 s2 r
  simp [u0b2, sg, h1]
theorem u3_ok : evS u0b3 (sg d2 xs w h f a6 a7 a8 a9 a15 a16) r = .ok (.nx (sg d2 xs w h f (.val (.lst ((lensI xs).map .int))) a7 a8 a9 a15 a16)) r := by
  simp only [u0b3, evS_set]
  rw [comp_as (as := xs) (f := D.str) (g := fun x => .int (x.length : Int)) (.tup (xs.map .str)) (by simp [sg]) rfl (fun x _ => ⟨_, by simp; rfl, by simp [sg]⟩)]
  unfold lensI
  simp [sg]
theorem lay_len {w : Int} : ∀ (xs L : List Str), (xs.foldl (layS w) L).length ≤ L.length + xs.length
  | [], L => Nat.le_refl _
  | x :: xs, L => by
    rw [List.foldl_cons]
    have := lay_len (w := w) xs (layS w L x)
    have h2 : (layS w L x).length ≤ L.length + 1 := by
      unfold layS
      split
      · rw [List.length_append, List.length_dropLast]; show L.length - 1 + 1 ≤ _; omega
      · rw [List.length_append]; exact Nat.le_refl _
    rw [List.length_cons]; omega
theorem lay_small (hd : Dr xs w h f) : (lay w xs).length ≤ 13 := by
  have := lay_len (w := w) xs []
  have h2 := hd.n
  unfold lay
  simp at this
  omega
theorem u4_ok (hd : Dr xs w h f) : evS u0b4 (sg d2 xs w h f (.val (.lst ((lensI xs).map .int))) a7 a8 a9 (.val (.lst ((lay w xs).map .str))) (.val (.lst ((plA w [] xs).map .int)))) r = .ok (.nx (sg d2 xs w h f (.val (.lst ((lensI xs).map .int))) a7 a8 a9 (.val (.lst ((lay w xs).map .str))) (.val (.lst ((plA w [] xs).map .int))))) r := by
  obtain ⟨s0, s1, s2⟩ := sz_small hd
  have hx : ∀ x ∈ xs, 1 ≤ x.length := fun x h => (hd.t x h).1
  have hl : (lensI xs).length < sizeLine := by unfold lensI; simpa using s1
  have h1 := fun r => line_numbers_ok hd.w hl r
  have h2 := fun r => many_lines_ok hd.w hl r
  have h3 := fun r => lines_of_ok hd.w hx s1 s2 r
  rw [manyL_lay hx] at h2
  rw [lns_pl hx] at h1
  have hp : (plA w [] xs).length ≤ 13 := by rw [← lns_pl hx]; unfold lns; rw [lnA_length]; unfold lensI; simpa using hd.n
  have hq := lay_small hd
  have al : AL 8 (.tup [.tup ((plA w [] xs).map .int), .int (lay w xs).length, .tup ((lay w xs).map .str)]) := by
    refine .tup (by simp) fun d hd => ?_
    simp only [List.mem_cons, List.not_mem_nil, or_false] at hd
    rcases hd with rfl | rfl | rfl
    · exact .ints (by omega)
    · exact .int _
    · exact .strs (by omega)
  have h4 := fun r => alike_ok al r
  simp [u0b4, sg, h1, h2, h3, h4]
def pcD (xs : List Str) (w : Int) : D := .lst (xs.map fun x => .lst ((brk x w).map .str))
theorem u5_ok (hd : Dr xs w h f) : evS u0b5 (sg d2 xs w h f a6 a7 a8 a9 a15 a16) r = .ok (.nx (sg d2 xs w h f a6 (.val (pcD xs w)) a8 a9 a15 a16)) r := by
  simp only [u0b5, evS_set]
  rw [comp_as (as := xs) (f := D.str) (g := fun x => .lst ((brk x w).map .str)) (.tup (xs.map .str)) (by simp [sg]) rfl (fun x hx => ⟨_, by simp; rfl, by
    have h1 := fun r => law_broken_ok (x := x) hd.w (by have := (hd.t x hx).2; omega) r
    simp [sg, h1]⟩)]
  simp [sg, pcD]
theorem cut_take {ds : List D} {i : Nat} (h : i ≤ ds.length) : cutL ds none (some (i : Int)) = ds.take i := by
  unfold cutL
  have e1 : HT.sIx ds.length 0 none = 0 := rfl
  have e2 : HT.sIx ds.length ds.length (some (i : Int)) = i := by rw [HT.sIx_nat]; omega
  rw [e1, e2, List.drop_zero, Nat.sub_zero]
def stK (xs : List Str) (w f : Int) (k : Nat) : Int := f + ((xs.take k).map fun x => (brN x w : Int)).sum
theorem stA_range {w : Int} (hw : 1 ≤ w) : ∀ (xs : List Str) (f : Int), (∀ x ∈ xs, 1 ≤ x.length) → stA w f (lensI xs) = (List.range xs.length).map (stK xs w f)
  | [], f, _ => rfl
  | x :: xs, f, hx => by
    obtain ⟨e1, _, _⟩ := elN_brN (hx x (List.mem_cons_self ..)) hw
    show f :: stA w (f + elN x.length w) (lensI xs) = _
    rw [stA_range hw xs _ (fun y hy => hx y (List.mem_cons_of_mem _ hy)), List.length_cons, List.range_succ_eq_map, List.map_cons, List.map_map, e1]
    congr 1
    · simp [stK]
    · refine List.map_congr_left fun k _ => ?_
      simp [stK]; omega
theorem u6_ok (hd : Dr xs w h f) : evS u0b6 (sg d2 xs w h f a6 (.val (pcD xs w)) a8 a9 a15 a16) r = .ok (.nx (sg d2 xs w h f a6 (.val (pcD xs w)) (.val (.tup ((stA w f (lensI xs)).map .int))) a9 a15 a16)) r := by
  have hx : ∀ x ∈ xs, 1 ≤ x.length := fun x h => (hd.t x h).1
  have hn := hd.n
  rw [stA_range hd.w.1 xs f hx]
  simp only [u0b6, evS_set, ev_tuple, ev_cons]
  rw [comp_as (as := List.range xs.length) (f := fun k => .int (0 + (k : Nat))) (g := fun k => .int (stK xs w f k)) (.lst (rngL 0 xs.length)) (by simp [sg, hRng1_ok (j := (xs.length : Int)) (by omega) (by omega), -hRng1_int]) rfl (fun k hk => ⟨_, by simp; rfl, by
    have hk := List.mem_range.mp hk
    have c0 : cutL (xs.map fun x => D.lst ((brk x w).map .str)) none (some (k : Int)) = (xs.take k).map fun x => D.lst ((brk x w).map .str) := by
      rw [cut_take (by simp; omega), List.map_take]
    have c1 : ∀ σ : St, σ[7]? = some (.val (pcD xs w)) → σ[18]? = some (.val (.int k)) → 20 < σ.length → ev (.comp [("one", 20)] (.nm 20) (.sl (.var 7) none (some (.var 18))) none (.bi .len (.cons (.var 20) .nil))) σ r = .ok (.lst ((((xs.take k).map fun x => (brN x w : Int))).map .int)) r := fun σ s7 s18 hl => by
      rw [comp_as (as := xs.take k) (f := fun x => D.lst ((brk x w).map .str)) (g := fun x => .int (brN x w : Int)) (.lst ((xs.take k).map fun x => D.lst ((brk x w).map .str))) (by simp [s7, s18, pcD, c0]) rfl (fun x _ => ⟨_, by simp; rfl, by simp [hl, brk]⟩)]
      rw [List.map_map]; rfl
    simp [sg]
    rw [c1 _ rfl rfl (by simp)]
    obtain ⟨l, hl⟩ : ∃ l, ((xs.take k).map fun x => (brN x w : Int)) = l := ⟨_, rfl⟩
    have e : stK xs w f k = f + l.sum := by unfold stK; rw [hl]
    rw [hl, e]
    simp [biD_sum]⟩)]
  simp [sg]
theorem u7_ok (hd : Dr xs w h f) : evS u0b7 (sg d2 xs w h f (.val (.lst ((lensI xs).map .int))) (.val (pcD xs w)) (.val (.tup ((stA w f (lensI xs)).map .int))) a9 a15 a16) r = .ok (.nx (sg d2 xs w h f (.val (.lst ((lensI xs).map .int))) (.val (pcD xs w)) (.val (.tup ((stA w f (lensI xs)).map .int))) a9 a15 a16)) r := by
  obtain ⟨s0, s1, s2⟩ := sz_small hd
  have hx : ∀ x ∈ xs, 1 ≤ x.length := fun x h => (hd.t x h).1
  have hn := hd.n
  have hl : (lensI xs).length < sizeLine := by unfold lensI; simpa using s1
  have h1 := fun r => entry_starts_ok (f := f) hd.w hl r
  have a1 : AL 8 (.tup ((stA w f (lensI xs)).map .int)) := .ints (by rw [stA_range hd.w.1 xs f hx]; simp; omega)
  have h2 := fun r => alike_ok a1 r
  have a2 : AL 8 (.lst (xs.map fun x => .tup ((brk x w).map .str))) := by
    refine .lst (by simp; omega) fun d hd' => ?_
    obtain ⟨x, hx', rfl⟩ := List.mem_map.mp hd'
    have := (elN_brN (hx x hx') hd.w.1).2.2
    have := (hd.t x hx').2
    exact .strs (by simp [brk]; omega)
  have h3 := fun r => alike_ok a2 r
  have c1 : ∀ r, ev (.comp [("token", 17)] (.nm 17) (.var 5) none (.call "broken" f_broken (.cons (.var 17) (.cons (.var 12) .nil)))) (sg d2 xs w h f (.val (.lst ((lensI xs).map .int))) (.val (pcD xs w)) (.val (.tup ((stA w f (lensI xs)).map .int))) a9 a15 a16) r = .ok (.lst (xs.map fun x => .tup ((brk x w).map .str))) r := fun r => by
    rw [comp_as (as := xs) (f := D.str) (g := fun x => .tup ((brk x w).map .str)) (.tup (xs.map .str)) (by simp [sg]) rfl (fun x hx => ⟨_, by simp; rfl, by
      have h1 := fun r => broken_ok (x := x) hd.w (hd.t x hx).1 (by have := (hd.t x hx).2; omega) r
      simp [sg, h1]⟩)]
  have c2 : ∀ r, ev (.comp [("one", 20)] (.nm 20) (.var 7) none (.bi .tuple (.cons (.var 20) .nil))) (sg d2 xs w h f (.val (.lst ((lensI xs).map .int))) (.val (pcD xs w)) (.val (.tup ((stA w f (lensI xs)).map .int))) a9 a15 a16) r = .ok (.lst (xs.map fun x => .tup ((brk x w).map .str))) r := fun r => by
    rw [comp_as (as := xs) (f := fun x => D.lst ((brk x w).map .str)) (g := fun x => .tup ((brk x w).map .str)) (pcD xs w) (by simp [sg]) rfl (fun x hx => ⟨_, by simp; rfl, by simp [sg]⟩)]
  simp only [sg] at c1 c2
  simp [u0b7, sg, h1, h2, h3, c1, c2]
theorem u8_ok (hd : Dr xs w h f) {ds : List D} (hl : ds.length ≤ 13) : evS u0b8 (sg d2 xs w h f a6 a7 a8 a9 (.val (.lst ds)) a16) r = .ok (.nx (sg d2 xs w h f a6 a7 a8 (.val (.tup (pagesD ds h))) (.val (.lst ds)) a16)) r := by
  have hh := hd.h
  simp only [u0b8, evS_set, ev_tuple, ev_cons]
  rw [comp_as (as := List.range (pgN ds.length h)) (f := fun k => .int (0 + (k : Nat) * h)) (g := fun k => .tup (cutL ds (some ((k : Nat) * h)) (some ((k : Nat) * h + h)))) (.lst (rngC 0 h (pgN ds.length h)))
    (ev_rng3 (i := 0) (j := ds.length) (k := h) (by simp) (by simp [sg]) (by simp [sg]) ⟨by omega, by omega, by omega, by omega, by omega, by omega, by omega⟩) rfl (fun k hk => ⟨_, by simp; rfl, by simp [sg]⟩)]
  simp [sg, pagesD]
theorem cut_sub {ds : List D} {a b : Option Int} : ∀ d ∈ cutL ds a b, d ∈ ds := fun d hd => List.mem_of_mem_drop (List.mem_of_mem_take hd)
theorem cut_le {ds : List D} {a b : Option Int} : (cutL ds a b).length ≤ ds.length := by
  unfold cutL
  rw [List.length_take, List.length_drop]; omega
theorem pg_le {n : Nat} {h : Int} (hh : 1 ≤ h) : pgN n h ≤ n := by
  unfold pgN
  have e : (n : Int) - 0 + h - 1 = ((n : Int) - 1) + 1 * h := by omega
  have e2 : ((n : Int) - 0 + h - 1) / h = ((n : Int) - 1) / h + 1 := by rw [e, Int.add_mul_ediv_right _ _ (by omega)]
  by_cases hn : n = 0
  · subst hn
    have : ((0 : Nat) : Int) - 0 + h - 1 = h - 1 := by omega
    rw [this, Int.ediv_eq_zero_of_lt (by omega) (by omega)]; exact Nat.le_refl _
  · have e4 : ((n : Int) - 1) / h ≤ (n : Int) - 1 := Int.ediv_le_self _ (by omega)
    rw [e2]; omega
theorem u9_ok (hd : Dr xs w h f) {ys : List Str} (hl : ys.length ≤ 13) : evS u0b9 (sg d2 xs w h f a6 a7 a8 (.val (.tup (pagesD (ys.map .str) h))) (.val (.lst (ys.map .str))) a16) r = .ok (.nx (sg d2 xs w h f a6 a7 a8 (.val (.tup (pagesD (ys.map .str) h))) (.val (.lst (ys.map .str))) a16)) r := by
  have h1 := fun r => on_pages_ok (ds := ys.map D.str) hd.h (by simp; omega) r
  have hp := pg_le (n := (ys.map D.str).length) hd.h.1
  rw [List.length_map] at hp
  have al : AL 8 (.tup (pagesD (ys.map .str) h)) := by
    refine .tup (by simp [pagesD]; omega) fun d hd' => ?_
    obtain ⟨k, _, rfl⟩ := List.mem_map.mp hd'
    refine .tup (Nat.le_trans cut_le (by simp; omega)) fun d hd' => ?_
    obtain ⟨y, _, rfl⟩ := List.mem_map.mp (cut_sub d hd')
    exact .str y
  have h2 := fun r => alike_ok al r
  simp [u0b9, sg, h1, h2]
end
end LW
set_option linter.all false
set_option maxRecDepth 100000
set_option maxHeartbeats 1000000
namespace LW
open PySem DI DQ
section
variable {d2 : D} {xs : List Str} {w h f : Int} {a6 a7 a8 a9 a15 a16 : Slot} {r : Rho}
theorem page_has {ys : List Str} {m k : Nat} (hm : 1 ≤ m) (hk : k < ys.length) : ∃ zs : List Str, ixD (.tup (pagesD (ys.map .str) m)) (.int ((k : Int) / m)) = some (.tup (zs.map .str)) ∧ ys[k] ∈ zs := by
  have hq : (k : Int) / (m : Int) = ((k / m : Nat) : Int) := (Int.natCast_ediv ..).symm
  have hmul : m * (k / m) ≤ k := Nat.mul_div_le k m
  have hlt : k < m * (k / m) + m := Nat.lt_mul_div_succ k hm
  generalize k / m = q at hq hmul hlt
  have hpg : q < pgN ys.length m := by
    unfold pgN
    have e : (ys.length : Int) - 0 + m - 1 = ((ys.length : Int) - 1) + 1 * m := by omega
    rw [e, Int.add_mul_ediv_right _ _ (by omega)]
    have h1 : (k : Int) / m ≤ ((ys.length : Int) - 1) / m := Int.ediv_le_ediv (by omega) (by omega)
    omega
  refine ⟨(ys.drop (q * m)).take (min (q * m + m) ys.length - q * m), ?_, ?_⟩
  · rw [hq]
    have e0 : (pagesD (ys.map D.str) m).length = pgN ys.length m := by simp [pagesD]
    have e1 : (pagesD (ys.map D.str) m)[q]? = some (.tup (cutL (ys.map D.str) (some ((q : Nat) * (m : Int))) (some ((q : Nat) * (m : Int) + m)))) := by
      unfold pagesD
      rw [List.getElem?_map, List.length_map, List.getElem?_range hpg]; rfl
    rw [ixD_tup, e0, ixN_pos (by omega) (by omega), Option.bind_some, Int.toNat_natCast, e1]
    congr 2
    unfold cutL
    have i1 : ((q : Int) * m) = ((q * m : Nat) : Int) := by simp
    have i2 : ((q : Int) * m + m) = ((q * m + m : Nat) : Int) := by simp
    have c : q * m ≤ k := by rw [Nat.mul_comm]; exact hmul
    rw [i2, i1, HT.sIx_nat, HT.sIx_nat, List.length_map, Nat.min_eq_left (show q * m ≤ ys.length by omega), List.map_take, List.map_drop]
  · have c : q * m ≤ k := by rw [Nat.mul_comm]; exact hmul
    have c2 : k < q * m + m := by rw [Nat.mul_comm q m]; exact hlt
    have e : ys[k] = ((ys.drop (q * m)).take (min (q * m + m) ys.length - q * m))[k - q * m]'(by rw [List.length_take, List.length_drop]; omega) := by
      rw [List.getElem_take, List.getElem_drop]
      congr 1
      omega
    rw [e]
    exact List.getElem_mem _
theorem u10_ok (hd : Dr xs w h f) {ys : List Str} (hl : ys.length ≤ 13) : evS u0b10 (sg d2 xs w h f a6 a7 a8 (.val (.tup (pagesD (ys.map .str) h))) (.val (.lst (ys.map .str))) a16) r = .ok (.nx (sg d2 xs w h f a6 a7 a8 (.val (.tup (pagesD (ys.map .str) h))) (.val (.lst (ys.map .str))) a16)) r := by
  have hh := hd.h
  obtain ⟨m, rfl⟩ : ∃ m : Nat, h = m := ⟨h.toNat, by omega⟩
  simp only [u0b10, evS_ifs, ev_cmp]
  rw [compIf_as (as := List.range ys.length) (f := fun k => .int (0 + (k : Nat))) (g := fun _ => .non) (p := fun _ => false) (.lst (rngL 0 ys.length)) (by
    simp [sg, hRng1_ok (j := (ys.length : Int)) (by omega) (by omega), -hRng1_int]) rfl (fun k hk => by
      have hk := List.mem_range.mp hk
      obtain ⟨zs, z1, z2⟩ := page_has (m := m) (by omega) hk
      have e1 : ixN ys.length (k : Int) = some k := by rw [ixN_pos (by omega) (by omega)]; simp
      have e2 : ys[k]? = some ys[k] := List.getElem?_eq_getElem hk
      have e3 : ixD (.lst (ys.map D.str)) (.int (k : Int)) = some (.str ys[k]) := by
        rw [ixD_lst, List.length_map, e1, Option.bind_some, List.getElem?_map, e2]; rfl
      have p1 := fun r => page_of_line_ok (l := (k : Int)) hh r
      have f1 : opD .fdiv (.int (k : Int)) (.int (m : Int)) = some (.int ((k : Int) / m)) := DQ.opD_fdiv ⟨by omega, by omega⟩
      have p2 : (k : Int) / m + 1 - 1 = (k : Int) / m := by omega
      have z3 : inD (.str ys[k]) (.tup (zs.map D.str)) = some true := by rw [inD_strsT, decide_eq_true z2]
      refine ⟨_, by simp; rfl, ?_, fun z => by cases z⟩
      simp [sg, e3, p1, p2, z1, z3, f1, -ixD_lst, -ixD_tup, -inD_strsT])]
  have : (List.range ys.length).filter (fun _ => false) = [] := by simp
  rw [this]
  have n0 : cmpD .ne (.lst []) (.lst []) = some false := rfl
  simp [n0, sg]
end
/-! ### the draws -/
def tks : List Str := ["a", "bc", "a b", "longer", "(x; y)", "@12", "verylongword"]
theorem tks_ok : ∀ x ∈ tks, TkOk x := by
  intro x hx
  simp only [tks, List.mem_cons, List.not_mem_nil, or_false] at hx
  rcases hx with rfl | rfl | rfl | rfl | rfl | rfl | rfl <;> (refine ⟨?_, ?_⟩ <;> decide)
def st0 (d2 : D) : St := [.un, .val .row, .val d2, .un, .un, .un, .un, .un, .un, .un, .un, .un, .un, .un, .un, .un, .un, .un, .un, .un, .un]
def st1 (d2 : D) (xs : List Str) : St := [.un, .val .row, .val d2, .un, .un, .val (.tup (xs.map .str)), .un, .un, .un, .un, .un, .un, .un, .un, .un, .un, .un, .un, .un, .un, .un]
theorem u0_wp {d2 : D} {r : Rho} (hr : RI r) : Wp (evS u0b0 (st0 d2) r) fun fl r' => RI r' ∧ ∃ xs : List Str, (∀ x ∈ xs, TkOk x) ∧ xs.length ≤ 13 ∧ fl = .nx (st1 d2 xs) := by
  simp only [u0b0, evS_set, ev_tuple, ev_cons, Wp_bind]
  refine comp_wp2 (I := RI) (N := fun n => n ≤ 13) (P := fun y => ∃ x, TkOk x ∧ y = .str x) ?_ (fun d r hr => ⟨_, by simp; rfl, ?_⟩) fun l r' h1 h2 h3 => ?_
  · simp [st0]
    simp only [Wp_bind]
    refine (taken_wp (a := 14) (by decide) (by decide) hr).mono fun t r1 ⟨h1, t, e, h2, h3⟩ => ?_
    subst e
    rw [hRng1_ok h2 (by omega)]
    exact ⟨h1, t.toNat, by omega, rfl⟩
  · simp [st0]
    refine (pick_str (xs := tks) (by decide) (by decide) hr).mono fun d r' ⟨h1, x, hx, e⟩ => ⟨h1, x, tks_ok x hx, e⟩
  · obtain ⟨xs, rfl, hxs⟩ := strs_all h3
    simp [st0]
    exact ⟨h1, xs, hxs, by simpa using h2, rfl⟩
theorem u1_wp {d2 : D} {xs : List Str} {r : Rho} (hr : RI r) (hx : ∀ x ∈ xs, TkOk x) (hn : xs.length ≤ 13) : Wp (evS u0b1 (st1 d2 xs) r) fun fl r' => RI r' ∧ ∃ w h f, Dr xs w h f ∧ fl = .nx (sg d2 xs w h f .un .un .un .un .un .un) := by
  simp [u0b1, st1]
  simp only [Wp_bind]
  refine (taken_wp (a := 20) (by decide) (by decide) hr).mono fun t r1 ⟨h1, t, e, t1, t2⟩ => ?_
  subst e
  try simp
  try simp only [Wp_bind]
  refine (taken_wp (a := 6) (by decide) (by decide) h1).mono fun u r1 ⟨h1, u, e, u1, u2⟩ => ?_
  subst e
  try simp
  try simp only [Wp_bind]
  refine (taken_wp (a := 9) (by decide) (by decide) h1).mono fun v r1 ⟨h1, v, e, v1, v2⟩ => ?_
  subst e
  try simp
  exact ⟨h1, 1 + t, 1 + u, v, ⟨hx, hn, by omega, by omega⟩, rfl⟩
theorem body_wp {d2 : D} {r : Rho} (hr : RI r) : Wp (evS body7 (st0 d2) r) fun fl r' => RI r' ∧ ∃ σ', fl = .nx σ' ∧ killS σ' [2, 5, 6, 7, 8, 9, 12, 13, 14, 15, 16, 17, 18, 20] = inS := by
  unfold body7
  rw [evS_cons, Wp_bind]
  refine (u0_wp hr).mono fun fl r1 ⟨h1, xs, hx, hn, e⟩ => ?_
  subst e
  rw [hSeq_nx, evS_cons, Wp_bind]
  refine (u1_wp h1 hx hn).mono fun fl r2 ⟨h2, w, h, f, hd, e⟩ => ?_
  subst e
  have hl := lay_small hd
  rw [hSeq_nx, evS_cons, u2_ok hd, Rs.bind_ok, hSeq_nx, evS_cons, u3_ok, Rs.bind_ok, hSeq_nx, evS_cons, u4_ok hd, Rs.bind_ok, hSeq_nx, evS_cons, u5_ok hd, Rs.bind_ok, hSeq_nx, evS_cons, u6_ok hd, Rs.bind_ok, hSeq_nx, evS_cons, u7_ok hd, Rs.bind_ok, hSeq_nx,
    evS_cons, u8_ok hd (by simpa using hl), Rs.bind_ok, hSeq_nx, evS_cons, u9_ok hd hl, Rs.bind_ok, hSeq_nx, evS_cons, u10_ok hd hl, Rs.bind_ok, hSeq_nx, evS_nil]
  exact ⟨h2, _, rfl, rfl⟩
/-! ### what is refused -/
def st9 (o1 o2 : D) (a3 a4 : Slot) : St := [.un, .val .row, .un, a3, a4, .un, .un, .un, .un, .un, .val o1, .val o2, .un, .un, .un, .un, .un, .un, .un, .un, .un]
def bdD (d : D) : D := .tup [.str "BadNumber", d]
theorem rp_bd {n : Nat} (hn : n ≤ 5) {d : D} (hd : d ∈ oddW ∨ d ∈ oddH) : ∃ u, rpD (.lst (List.replicate n (bdD d))) = some (.str u) := by
  have hn : n = 0 ∨ n = 1 ∨ n = 2 ∨ n = 3 ∨ n = 4 ∨ n = 5 := by omega
  refine ⟨_, if_pos (rpB_ok (d := .lst (List.replicate n (bdD d))) ?_ ?_ ?_)⟩ <;>
  · rcases hd with hd | hd <;> simp only [oddW, oddH, List.mem_cons, List.not_mem_nil, or_false] at hd <;> rcases hd with rfl | rfl | rfl | rfl | rfl | rfl <;> rcases hn with rfl | rfl | rfl | rfl | rfl | rfl <;> decide +kernel
theorem mulL {d : D} {n : Nat} (h : n < 1000) : opD .mul (.lst [d]) (.int n) = some (.lst (List.replicate n d)) := by
  have e : opD .mul (.lst [d]) (.int n) = if -(2 ^ 63) ≤ (n : Int) ∧ (n : Int) < 2 ^ 63 ∧ ([d] : List D).length * (n : Int).toNat ≤ sizeLine then some (.lst (List.replicate (n : Int).toNat [d]).flatten) else none := by
    simp only [opD]
  have hs : (16777216 : Nat) ≤ sizeLine := by rw [sizeLine_eq]; decide
  rw [e, if_pos ⟨by omega, by omega, by simp; omega⟩]
  simp
theorem tail_wp {r : Rho} (hr : RI r) : Wp (evS (.cons u1 (.cons u2 (.cons u3 (.cons u4 .nil)))) inS r) fun fl _ => fl = .ret (.bl true) := by
  rw [evS_cons]
  simp [u1, inS]
  simp only [Wp_bind]
  refine (pick_wp (ds := oddW) (by decide) (by decide) hr).mono fun o1 r1 ⟨h1, m1⟩ => ?_
  try simp
  try simp only [Wp_bind]
  refine (pick_wp (ds := oddH) (by decide) (by decide) h1).mono fun o2 r2 ⟨h2, m2⟩ => ?_
  try simp
  have bw := fun r => need_width_bad m1 r
  have bp := fun r => page_of_line_bad m2 (.int 0) r
  let σ1 : St := st9 o1 o2 (.val (.lst [.fnv 204 [.non], .fnv 203 [.non], .fnv 202 [.non], .fnv 201 [.non], .fnv 200 [.non]])) (.val (.lst [.fnv 206 [.non], .fnv 205 [.non]]))
  have x204 : ev t_204 σ1 r2 = .exc ⟨2, [o1]⟩ r2 := by simp [σ1, st9, t_204, f_line_numbers, runF_eq, b_line_numbers, startD, bw, Rs.bind]
  have x203 : ev t_203 σ1 r2 = .exc ⟨2, [o1]⟩ r2 := by simp [σ1, st9, t_203, f_many_lines, b_many_lines, f_line_numbers, runF_eq, b_line_numbers, startD, bw, Rs.bind]
  have x202 : ev t_202 σ1 r2 = .exc ⟨2, [o1]⟩ r2 := by
    have hc : ev (.comp [("token", 3)] (.nm 3) (.var 0) none (.bi .len (.cons (.var 3) .nil))) [.val (.tup [.str "a"]), .val o1, .own [], .un, .un] r2 = .ok (.lst [.int 1]) r2 := by
      rw [comp_as (as := [("a" : Str)]) (f := D.str) (g := fun _ => .int 1) (.tup [.str "a"]) (by simp) rfl (fun x hx => ⟨_, by simp; rfl, by rw [List.mem_singleton.mp hx]; simp; rfl⟩)]; rfl
    simp [σ1, st9, t_202, f_lines_of, b_lines_of, runF_eq, startD]
    rw [hc]
    simp [f_line_numbers, runF_eq, b_line_numbers, startD, bw, Rs.bind]
  have x201 : ev t_201 σ1 r2 = .exc ⟨2, [o1]⟩ r2 := by simp [σ1, st9, t_201, f_broken, runF_eq, b_broken, startD, bw, Rs.bind]
  have x200 : ev t_200 σ1 r2 = .exc ⟨2, [o1]⟩ r2 := by simp [σ1, st9, t_200, f_entry_starts, runF_eq, b_entry_starts, startD, bw, Rs.bind]
  have x206 : ev t_206 σ1 r2 = .exc ⟨2, [o2]⟩ r2 := by simp [σ1, st9, t_206, bp]
  have x205 : ev t_205 σ1 r2 = .exc ⟨2, [o2]⟩ r2 := by simp [σ1, st9, t_205, f_on_pages, runF_eq, b_on_pages, startD, bp, Rs.bind]
  have n2 : nsT.lookup 2 = some "BadNumber" := rfl
  have y1 : ev (.tells 3 19 [204, 203, 202, 201, 200] [("call", 19)] (.cons (.told "_law_told" nsT t_204) (.cons (.told "_law_told" nsT t_203) (.cons (.told "_law_told" nsT t_202) (.cons (.told "_law_told" nsT t_201) (.cons (.told "_law_told" nsT t_200) .nil)))))) σ1 r2 = .ok (.lst (List.replicate 5 (bdD o1))) r2 := by
    refine ev_tells (fs := [.fnv 204 [.non], .fnv 203 [.non], .fnv 202 [.non], .fnv 201 [.non], .fnv 200 [.non]]) rfl rfl (by simp [σ1, st9]) ?_
    simp [told_exc x204 n2, told_exc x203 n2, told_exc x202 n2, told_exc x201 n2, told_exc x200 n2, bdD, List.replicate]
  have y2 : ev (.tells 4 19 [206, 205] [("call", 19)] (.cons (.told "_law_told" nsT t_206) (.cons (.told "_law_told" nsT t_205) .nil))) σ1 r2 = .ok (.lst (List.replicate 2 (bdD o2))) r2 := by
    refine ev_tells (fs := [.fnv 206 [.non], .fnv 205 [.non]]) rfl rfl (by simp [σ1, st9]) ?_
    simp [told_exc x206 n2, told_exc x205 n2, bdD, List.replicate]
  have s1 := fun r => same_ok (rp_bd (n := 5) (by decide) (.inl m1)) r
  have s2 := fun r => same_ok (rp_bd (n := 2) (by decide) (.inr m2)) r
  have m5 : opD .mul (.lst [bdD o1]) (.int 5) = some (.lst (List.replicate 5 (bdD o1))) := mulL (n := 5) (by decide)
  have m2' : opD .mul (.lst [bdD o2]) (.int 2) = some (.lst (List.replicate 2 (bdD o2))) := mulL (n := 2) (by decide)
  simp only [σ1, st9, bdD] at y1 y2 s1 s2 m5 m2'
  simp [u2, u3, u4, y1, y2, s1, s2, m5, m2', -List.reduceReplicate]
theorem plain : ∀ ns : List Int, ns.length ≤ 63 → (∀ z ∈ ns, Builtin.Int.intBits z ≤ 1048576) → ∃ r, evS b_law (.un :: .val .row :: List.replicate 19 .un) ⟨ns, 0, 27707, 0⟩ = .ok (.ret (.bl true)) r := by
  intro ns _ _
  have key : Wp (evS b_law inS ⟨ns, 0, 27707, 0⟩) fun fl _ => fl = .ret (.bl true) := by
    rw [b_law_eq]
    have e0 : ∀ r, ev (.rng1 (.int 5)) inS r = .ok (.lst (rngL 0 5)) r := fun r => by simp
    rw [evS_cons, u0, evS_fors, e0, Rs.bind_ok, iterD_lst, hOpt_some, Wp_bind]
    refine forR_wp (I := fun j σ r' => RI r' ∧ σ = inS) _ 0 _ _ ⟨Int.le_refl _, rfl⟩ (fun j d σ r' hj ⟨h3, h6⟩ => ?_) (fun σ r' ⟨h3, h6⟩ => ?_)
    · subst h6
      rw [asg_nm, hOpt_some]
      exact (body_wp (d2 := d) h3).mono fun fl r2 ⟨h3, σ', e, e2⟩ => ⟨σ', e, h3, e2⟩
    · subst h6
      rw [hSeq_nx]
      exact tail_wp h3
  obtain ⟨fl, r, e, rfl⟩ := key.out
  exact ⟨r, e⟩
end LW
set_option Elab.async false
set_option linter.all false
set_option maxRecDepth 100000
set_option maxHeartbeats 0
namespace LW
open PySem PySem.Spec PyProof.Rows DI
open L2 hiding ixN
def lamsOf : Nat → Option (List Str × E)
  | _ => none
def dfsOf : Nat → Option Str
  | _ => none
def caOf (K : PySem.W.Frag) : Nat → Addr
  | 2 => He.ga K "BadNumber"
  | _ => 0
def cfOf : Nat → List Str
  | 2 => (["value"] : List Str)
  | _ => []
def clmsOf : Nat → Option E
  | 200 => some t_200
  | 201 => some t_201
  | 202 => some t_202
  | 203 => some t_203
  | 204 => some t_204
  | 205 => some t_205
  | 206 => some t_206
  | _ => none
def WW (w : World) (K : PySem.W.Frag) (mg : Str → Option Value) (base : Heap) (lc : LcT) : Wd where
  P := PRG
  w := w
  K := K
  mg := mg
  base := base
  ca := caOf K
  cf := cfOf
  T := TT K
  me := 0
  mc := .none
  md := none
  lams := lamsOf
  dfs := dfsOf
  fo := foOf lamsOf dfsOf mg
  foM := foOf_mono
  clms := clmsOf
  lc := lc
theorem ev_ref (x : Exc) (r : Rho) (n : Str) (h1 : nsT.lookup x.c = some n) (h2 : x.ds.length = (cfOf x.c).length) : evS b__law_refusal (.exc x :: List.replicate 3 .un) r = .ok (.ret (.tup (.str n :: x.ds))) r := by
  obtain ⟨c, ds⟩ := x
  have hm := memN h1
  simp only [nsT, List.mem_cons, List.not_mem_nil, or_false, Prod.mk.injEq] at hm
  rcases hm with ⟨rfl, rfl⟩
  · match ds, h2 with
    | [y0], _ => kernel_rfl

theorem tt_in {K : PySem.W.Frag} {p : Addr × Str} (h : p ∈ TT K) : ∃ q ∈ tf, p.1 = (He.cT K q).2 := by
  have e : (TT K).map (·.1) = tf.map fun q => (He.cT K q).2 := rfl
  have h2 : p.1 ∈ (TT K).map (·.1) := List.mem_map.mpr ⟨p, h, rfl⟩
  rw [e] at h2
  obtain ⟨q, h3, h4⟩ := List.mem_map.mp h2
  exact ⟨q, h3, h4.symm⟩
theorem law_ok {w : World} {K : PySem.W.Frag} {mg : Str → Option Value} {h : Heap} (X : K.In h) (G : h.Ns mainGlobals mg) (c : He.SaysX fa fn [] tf ex w h K) (base : Heap) (TB : ∀ p ∈ tf.map (He.cT K), LamX.TabB base mg p.1 p.2) (lc : LcT) : OkS (WW w K mg base lc) 10 b_law := by
  have cd : He.SaysD fa fn K := c.t.d
  obtain ⟨cBN, cX⟩ := ba c.more
  obtain ⟨cB, cN⟩ := ba cBN
  have cN := of_decide_eq_true cN
  have wok : WOk (WW w K mg base lc) := ⟨fun x hx => free_all X G cd (l := bnames) (by decide) x hx, fun n cs v F => Iff.rfl⟩
  have X_BadNumber : ExcS (WW w K mg base lc) "BadNumber" 2 := exc_ok (W := WW w K mg base lc) (cn := 2) (He.glo_ok X G (cd.fact 41 (f := .glo "BadNumber") rfl)) (ba cX).1
  have IS_NothingDone : IsS (WW w K mg base lc) [2] [] "NothingDone" := is_ok (W := WW w K mg base lc) (He.glo_ok X G (cd.fact 48 (f := .glo "NothingDone") rfl)) (by
    intro c hc
    simp only [List.mem_cons, List.not_mem_nil, or_false] at hc
    rcases hc with rfl
    · exact ⟨(["value"] : List Str), (ba (ba cX).2).1, (of_decide_eq_true (ba (ba (ba (ba (ba (ba (ba (ba (ba (ba (ba (ba cX).2).2).2).2).2).2).2).2).2).2).2).1).trans (by decide)⟩
    )
  have IS_BadClaim : IsS (WW w K mg base lc) [2] [] "BadClaim" := is_ok (W := WW w K mg base lc) (He.glo_ok X G (cd.fact 47 (f := .glo "BadClaim") rfl)) (by
    intro c hc
    simp only [List.mem_cons, List.not_mem_nil, or_false] at hc
    rcases hc with rfl
    · exact ⟨(["value"] : List Str), (ba (ba cX).2).1, (of_decide_eq_true (ba (ba (ba (ba (ba (ba (ba (ba (ba (ba (ba cX).2).2).2).2).2).2).2).2).2).2).1).trans (by decide)⟩
    )
  have IS_BadLine : IsS (WW w K mg base lc) [2] [] "BadLine" := is_ok (W := WW w K mg base lc) (He.glo_ok X G (cd.fact 46 (f := .glo "BadLine") rfl)) (by
    intro c hc
    simp only [List.mem_cons, List.not_mem_nil, or_false] at hc
    rcases hc with rfl
    · exact ⟨(["value"] : List Str), (ba (ba cX).2).1, (of_decide_eq_true (ba (ba (ba (ba (ba (ba (ba (ba (ba (ba cX).2).2).2).2).2).2).2).2).2).1).trans (by decide)⟩
    )
  have IS_BadText : IsS (WW w K mg base lc) [2] [] "BadText" := is_ok (W := WW w K mg base lc) (He.glo_ok X G (cd.fact 45 (f := .glo "BadText") rfl)) (by
    intro c hc
    simp only [List.mem_cons, List.not_mem_nil, or_false] at hc
    rcases hc with rfl
    · exact ⟨(["value"] : List Str), (ba (ba cX).2).1, (of_decide_eq_true (ba (ba (ba (ba (ba (ba (ba (ba (ba cX).2).2).2).2).2).2).2).2).1).trans (by decide)⟩
    )
  have IS_BadChange : IsS (WW w K mg base lc) [2] [] "BadChange" := is_ok (W := WW w K mg base lc) (He.glo_ok X G (cd.fact 44 (f := .glo "BadChange") rfl)) (by
    intro c hc
    simp only [List.mem_cons, List.not_mem_nil, or_false] at hc
    rcases hc with rfl
    · exact ⟨(["value"] : List Str), (ba (ba cX).2).1, (of_decide_eq_true (ba (ba (ba (ba (ba (ba (ba (ba cX).2).2).2).2).2).2).2).1).trans (by decide)⟩
    )
  have IS_BadMark : IsS (WW w K mg base lc) [2] [] "BadMark" := is_ok (W := WW w K mg base lc) (He.glo_ok X G (cd.fact 43 (f := .glo "BadMark") rfl)) (by
    intro c hc
    simp only [List.mem_cons, List.not_mem_nil, or_false] at hc
    rcases hc with rfl
    · exact ⟨(["value"] : List Str), (ba (ba cX).2).1, (of_decide_eq_true (ba (ba (ba (ba (ba (ba (ba cX).2).2).2).2).2).2).1).trans (by decide)⟩
    )
  have IS_Unknown : IsS (WW w K mg base lc) [2] [] "Unknown" := is_ok (W := WW w K mg base lc) (He.glo_ok X G (cd.fact 42 (f := .glo "Unknown") rfl)) (by
    intro c hc
    simp only [List.mem_cons, List.not_mem_nil, or_false] at hc
    rcases hc with rfl
    · exact ⟨(["value"] : List Str), (ba (ba cX).2).1, (of_decide_eq_true (ba (ba (ba (ba (ba (ba cX).2).2).2).2).2).1).trans (by decide)⟩
    )
  have IS_BadNumber : IsS (WW w K mg base lc) [2] [2] "BadNumber" := is_ok (W := WW w K mg base lc) (He.glo_ok X G (cd.fact 41 (f := .glo "BadNumber") rfl)) (by
    intro c hc
    simp only [List.mem_cons, List.not_mem_nil, or_false] at hc
    rcases hc with rfl
    · exact ⟨(["value"] : List Str), (ba (ba cX).2).1, (of_decide_eq_true (ba (ba (ba (ba (ba cX).2).2).2).2).1).trans (by decide)⟩
    )
  have IS_BadPart : IsS (WW w K mg base lc) [2] [] "BadPart" := is_ok (W := WW w K mg base lc) (He.glo_ok X G (cd.fact 40 (f := .glo "BadPart") rfl)) (by
    intro c hc
    simp only [List.mem_cons, List.not_mem_nil, or_false] at hc
    rcases hc with rfl
    · exact ⟨(["value"] : List Str), (ba (ba cX).2).1, (of_decide_eq_true (ba (ba (ba (ba cX).2).2).2).1).trans (by decide)⟩
    )
  have IS_ValueError : IsS (WW w K mg base lc) [2] [2] "ValueError" := isV_ok (W := WW w K mg base lc) (He.free_ok X G (cd.fact 49 (f := .free "ValueError") rfl)) (by
    intro c hc
    simp only [List.mem_cons, List.not_mem_nil, or_false] at hc
    rcases hc with rfl
    · exact ⟨(["value"] : List Str), (ba (ba cX).2).1, (of_decide_eq_true (ba (ba (ba (ba (ba (ba (ba (ba (ba (ba (ba (ba (ba cX).2).2).2).2).2).2).2).2).2).2).2).2).1).trans (by decide)⟩
    )
  have XF_place : XfS (WW w K mg base lc) [] "place" := xf_ok (W := WW w K mg base lc) (by
    intro p hp; cases hp
    )
  have XF_part : XfS (WW w K mg base lc) [] "part" := xf_ok (W := WW w K mg base lc) (by
    intro p hp; cases hp
    )
  have XF_value : XfS (WW w K mg base lc) [(2, 0)] "value" := xf_ok (W := WW w K mg base lc) (by
    intro p hp
    simp only [List.mem_cons, List.not_mem_nil, or_false] at hp
    rcases hp with rfl
    · exact ⟨rfl, (ba (ba cX).2).1⟩
    )
  have XF_name : XfS (WW w K mg base lc) [] "name" := xf_ok (W := WW w K mg base lc) (by
    intro p hp; cases hp
    )
  have XF_line : XfS (WW w K mg base lc) [] "line" := xf_ok (W := WW w K mg base lc) (by
    intro p hp; cases hp
    )
  obtain ⟨fd__law_taken, FD⟩ := fd_of cd dfl0 (i := 11) (by rw [fn_len]; decide) (d0 := dd0)
  have F__law_taken : FnS (WW w K mg base lc) 2 "_law_taken" f__law_taken := fn_ok (W := WW w K mg base lc) (k := 1) wok FD (hm_of X G a__law_taken (cd.fact 0 (f := .glo "_law_taken") rfl)) n__law_taken p__law_taken (by decide) lm_false k__law_taken (o__law_taken (by decide))
  obtain ⟨fd__law_pick, FD⟩ := fd_of cd dfl0 (i := 12) (by rw [fn_len]; decide) (d0 := dd0)
  have F__law_pick : FnS (WW w K mg base lc) 3 "_law_pick" f__law_pick := fn_ok (W := WW w K mg base lc) (k := 2) wok FD (hm_of X G a__law_pick (cd.fact 1 (f := .glo "_law_pick") rfl)) n__law_pick p__law_pick (by decide) lm_false k__law_pick (o__law_pick (by decide) (F__law_taken.mono (by decide)))
  obtain ⟨fd__law_lay, FD⟩ := fd_of cd dfl0 (i := 17) (by rw [fn_len]; decide) (d0 := dd0)
  have F__law_lay : FnS (WW w K mg base lc) 2 "_law_lay" f__law_lay := fn_ok (W := WW w K mg base lc) (k := 1) wok FD (hm_of X G a__law_lay (cd.fact 2 (f := .glo "_law_lay") rfl)) n__law_lay p__law_lay (by decide) lm_false k__law_lay (o__law_lay (by decide))
  obtain ⟨fd__law_alike, FD⟩ := fd_of cd dfl0 (i := 13) (by rw [fn_len]; decide) (d0 := dd0)
  have R__law_alike : ∀ n, FnS (WW w K mg base lc) (1 + n) "_law_alike" (r__law_alike n) := by
    intro n
    induction n with
    | zero => exact fn_none (W := WW w K mg base lc) FD (hm_of X G a__law_alike (cd.fact 3 (f := .glo "_law_alike") rfl)) p__law_alike
    | succ n ih => exact fn_ok (W := WW w K mg base lc) (k := 1 + n) wok FD (hm_of X G a__law_alike (cd.fact 3 (f := .glo "_law_alike") rfl)) n__law_alike p__law_alike (by decide) lm_false (k__law_alike _) (o__law_alike (by omega) ih)
  have F__law_alike : FnS (WW w K mg base lc) 10 "_law_alike" f__law_alike := R__law_alike 9
  obtain ⟨fd_is_whole, FD⟩ := fd_of cd dfl0 (i := 0) (by rw [fn_len]; decide) (d0 := dd0)
  have F_is_whole : FnS (WW w K mg base lc) 2 "is_whole" f_is_whole := fn_ok (W := WW w K mg base lc) (k := 1) wok FD (hm_of X G a_is_whole (cd.fact 4 (f := .glo "is_whole") rfl)) n_is_whole p_is_whole (by decide) lm_false k_is_whole (o_is_whole (by decide))
  obtain ⟨fd_is_within, FD⟩ := fd_of cd dfl0 (i := 1) (by rw [fn_len]; decide) (d0 := dd0)
  have F_is_within : FnS (WW w K mg base lc) 3 "is_within" f_is_within := fn_ok (W := WW w K mg base lc) (k := 2) wok FD (hm_of X G a_is_within (cd.fact 5 (f := .glo "is_within") rfl)) n_is_within p_is_within (by decide) lm_false k_is_within (o_is_within (by decide) (F_is_whole.mono (by decide)))
  obtain ⟨fd_need_width, FD⟩ := fd_of cd dfl0 (i := 2) (by rw [fn_len]; decide) (d0 := dd0)
  have F_need_width : FnS (WW w K mg base lc) 4 "need_width" f_need_width := fn_ok (W := WW w K mg base lc) (k := 3) wok FD (hm_of X G a_need_width (cd.fact 6 (f := .glo "need_width") rfl)) n_need_width p_need_width (by decide) lm_false k_need_width (o_need_width (by decide) (by decide) X_BadNumber rfl (F_is_within.mono (by decide)) (cons_ok (W := WW w K mg base lc) X G cB (List.mem_of_getElem? (show consts[1]? = some (("MOST_WIDTH" : Str), c_MOST_WIDTH) from rfl))))
  obtain ⟨fd_line_numbers, FD⟩ := fd_of cd dfl0 (i := 3) (by rw [fn_len]; decide) (d0 := dd0)
  have F_line_numbers : FnS (WW w K mg base lc) 5 "line_numbers" f_line_numbers := fn_ok (W := WW w K mg base lc) (k := 4) wok FD (hm_of X G a_line_numbers (cd.fact 7 (f := .glo "line_numbers") rfl)) n_line_numbers p_line_numbers (by decide) lm_false k_line_numbers (o_line_numbers (by decide) (F_need_width.mono (by decide)))
  obtain ⟨fd_lines_of, FD⟩ := fd_of cd dfl0 (i := 8) (by rw [fn_len]; decide) (d0 := dd0)
  have F_lines_of : FnS (WW w K mg base lc) 6 "lines_of" f_lines_of := fn_ok (W := WW w K mg base lc) (k := 5) wok FD (hm_of X G a_lines_of (cd.fact 8 (f := .glo "lines_of") rfl)) n_lines_of p_lines_of (by decide) lm_false k_lines_of (o_lines_of (by decide) (F_line_numbers.mono (by decide)))
  obtain ⟨fd_many_lines, FD⟩ := fd_of cd dfl0 (i := 4) (by rw [fn_len]; decide) (d0 := dd0)
  have F_many_lines : FnS (WW w K mg base lc) 6 "many_lines" f_many_lines := fn_ok (W := WW w K mg base lc) (k := 5) wok FD (hm_of X G a_many_lines (cd.fact 9 (f := .glo "many_lines") rfl)) n_many_lines p_many_lines (by decide) lm_false k_many_lines (o_many_lines (by decide) (F_line_numbers.mono (by decide)))
  obtain ⟨fd__law_broken, FD⟩ := fd_of cd dfl0 (i := 18) (by rw [fn_len]; decide) (d0 := dd0)
  have F__law_broken : FnS (WW w K mg base lc) 2 "_law_broken" f__law_broken := fn_ok (W := WW w K mg base lc) (k := 1) wok FD (hm_of X G a__law_broken (cd.fact 10 (f := .glo "_law_broken") rfl)) n__law_broken p__law_broken (by decide) lm_false k__law_broken (o__law_broken (by decide))
  obtain ⟨fd_entry_lines, FD⟩ := fd_of cd dfl0 (i := 5) (by rw [fn_len]; decide) (d0 := dd0)
  have F_entry_lines : FnS (WW w K mg base lc) 2 "entry_lines" f_entry_lines := fn_ok (W := WW w K mg base lc) (k := 1) wok FD (hm_of X G a_entry_lines (cd.fact 11 (f := .glo "entry_lines") rfl)) n_entry_lines p_entry_lines (by decide) lm_false k_entry_lines (o_entry_lines (by decide))
  obtain ⟨fd_entry_starts, FD⟩ := fd_of cd dfl0 (i := 6) (by rw [fn_len]; decide) (d0 := dd0)
  have F_entry_starts : FnS (WW w K mg base lc) 5 "entry_starts" f_entry_starts := fn_ok (W := WW w K mg base lc) (k := 4) wok FD (hm_of X G a_entry_starts (cd.fact 12 (f := .glo "entry_starts") rfl)) n_entry_starts p_entry_starts (by decide) lm_false k_entry_starts (o_entry_starts (by decide) (F_need_width.mono (by decide)) (F_entry_lines.mono (by decide)))
  obtain ⟨fd_broken, FD⟩ := fd_of cd dfl0 (i := 9) (by rw [fn_len]; decide) (d0 := dd0)
  have F_broken : FnS (WW w K mg base lc) 5 "broken" f_broken := fn_ok (W := WW w K mg base lc) (k := 4) wok FD (hm_of X G a_broken (cd.fact 13 (f := .glo "broken") rfl)) n_broken p_broken (by decide) lm_false k_broken (o_broken (by decide) (F_need_width.mono (by decide)) (F_entry_lines.mono (by decide)))
  obtain ⟨fd_page_of_line, FD⟩ := fd_of cd dfl0 (i := 7) (by rw [fn_len]; decide) (d0 := dd0)
  have F_page_of_line : FnS (WW w K mg base lc) 4 "page_of_line" f_page_of_line := fn_ok (W := WW w K mg base lc) (k := 3) wok FD (hm_of X G a_page_of_line (cd.fact 14 (f := .glo "page_of_line") rfl)) n_page_of_line p_page_of_line (by decide) lm_false k_page_of_line (o_page_of_line (by decide) (by decide) X_BadNumber rfl (F_is_within.mono (by decide)) (cons_ok (W := WW w K mg base lc) X G cB (List.mem_of_getElem? (show consts[0]? = some (("MOST_HEIGHT" : Str), c_MOST_HEIGHT) from rfl))))
  obtain ⟨fd_on_pages, FD⟩ := fd_of cd dfl0 (i := 10) (by rw [fn_len]; decide) (d0 := dd0)
  have F_on_pages : FnS (WW w K mg base lc) 5 "on_pages" f_on_pages := fn_ok (W := WW w K mg base lc) (k := 4) wok FD (hm_of X G a_on_pages (cd.fact 15 (f := .glo "on_pages") rfl)) n_on_pages p_on_pages (by decide) lm_false k_on_pages (o_on_pages (by decide) (F_page_of_line.mono (by decide)))
  obtain ⟨fd__law_same, FD⟩ := fd_of cd dfl0 (i := 14) (by rw [fn_len]; decide) (d0 := dd0)
  have FG__law_same : FnG (WW w K mg base lc) 2 "_law_same" f__law_same := fn_okG (W := WW w K mg base lc) (k := 1) wok FD (hm_of X G a__law_same (cd.fact 16 (f := .glo "_law_same") rfl)) n__law_same p__law_same (by decide) lm_false k__law_same (o__law_same (by decide))
  obtain ⟨fd__law_refusal, FD⟩ := fd_of cd dfl0 (i := 16) (by rw [fn_len]; decide) (d0 := dd0)
  have RS : RefS (WW w K mg base lc) "_law_refusal" nsT := ref_ok (W := WW w K mg base lc) wok FD (hm_of X G a__law_refusal (cd.fact 17 (f := .glo "_law_refusal") rfl)) n__law_refusal p__law_refusal (by decide) k__law_refusal (fun z z1 z2 => o__law_refusal (W := (WW w K mg base lc).atx z z1 z2) IS_NothingDone IS_BadClaim IS_BadLine IS_BadText IS_BadChange IS_BadMark IS_Unknown IS_BadNumber IS_BadPart IS_ValueError XF_place XF_part XF_value XF_name XF_line) ev_ref
  obtain ⟨fd_told, FD⟩ := fd_of cd dfl0 (i := 15) (by rw [fn_len]; decide) (d0 := dd0)
  have TO : ToldS (WW w K mg base lc) 10 "_law_told" nsT := by
    have e1 := hm_of X G a__law_told (cd.fact 38 (f := .glo "_law_told") rfl)
    have e2 := p__law_told
    rw [q__law_told.1, q__law_told.2] at FD e2
    refine told_ok (W := WW w K mg base lc) (j := 8) (a := "call") (cn := "CiteError") (rn := "_law_refusal") FD e1 n__law_told rfl v__law_told (by decide +kernel) e2 k__law_told RS (He.glo_ok X G (cd.fact 39 (f := .glo "CiteError") rfl)) (fun c n e => ?_) rfl
    have hm := memN e
    simp only [nsT, List.mem_cons, List.not_mem_nil, or_false, Prod.mk.injEq] at hm
    rcases hm with ⟨rfl, rfl⟩
    · exact of_decide_eq_true (ba (ba (ba cX).2).2).1
  exact o_law (by decide) (FG__law_same.mono (by decide)) TO (by decide) (F_entry_starts.mono (by decide)) (F_broken.mono (by decide)) (F_lines_of.mono (by decide)) (F_many_lines.mono (by decide)) (F_line_numbers.mono (by decide)) (F_on_pages.mono (by decide)) (F_page_of_line.mono (by decide)) ⟨rfl, fo_no rfl rfl⟩ (ot_200 (W := WW w K mg base lc) (k := 10) (by decide) (F_entry_starts.mono (by decide)) (F_broken.mono (by decide)) (F_lines_of.mono (by decide)) (F_many_lines.mono (by decide)) (F_line_numbers.mono (by decide)) (F_on_pages.mono (by decide)) (F_page_of_line.mono (by decide))) ⟨rfl, fo_no rfl rfl⟩ (ot_201 (W := WW w K mg base lc) (k := 10) (by decide) (F_entry_starts.mono (by decide)) (F_broken.mono (by decide)) (F_lines_of.mono (by decide)) (F_many_lines.mono (by decide)) (F_line_numbers.mono (by decide)) (F_on_pages.mono (by decide)) (F_page_of_line.mono (by decide))) ⟨rfl, fo_no rfl rfl⟩ (ot_202 (W := WW w K mg base lc) (k := 10) (by decide) (F_entry_starts.mono (by decide)) (F_broken.mono (by decide)) (F_lines_of.mono (by decide)) (F_many_lines.mono (by decide)) (F_line_numbers.mono (by decide)) (F_on_pages.mono (by decide)) (F_page_of_line.mono (by decide))) ⟨rfl, fo_no rfl rfl⟩ (ot_203 (W := WW w K mg base lc) (k := 10) (by decide) (F_entry_starts.mono (by decide)) (F_broken.mono (by decide)) (F_lines_of.mono (by decide)) (F_many_lines.mono (by decide)) (F_line_numbers.mono (by decide)) (F_on_pages.mono (by decide)) (F_page_of_line.mono (by decide))) ⟨rfl, fo_no rfl rfl⟩ (ot_204 (W := WW w K mg base lc) (k := 10) (by decide) (F_entry_starts.mono (by decide)) (F_broken.mono (by decide)) (F_lines_of.mono (by decide)) (F_many_lines.mono (by decide)) (F_line_numbers.mono (by decide)) (F_on_pages.mono (by decide)) (F_page_of_line.mono (by decide))) ⟨rfl, fo_no rfl rfl⟩ (ot_205 (W := WW w K mg base lc) (k := 10) (by decide) (F_entry_starts.mono (by decide)) (F_broken.mono (by decide)) (F_lines_of.mono (by decide)) (F_many_lines.mono (by decide)) (F_line_numbers.mono (by decide)) (F_on_pages.mono (by decide)) (F_page_of_line.mono (by decide))) ⟨rfl, fo_no rfl rfl⟩ (ot_206 (W := WW w K mg base lc) (k := 10) (by decide) (F_entry_starts.mono (by decide)) (F_broken.mono (by decide)) (F_lines_of.mono (by decide)) (F_many_lines.mono (by decide)) (F_line_numbers.mono (by decide)) (F_on_pages.mono (by decide)) (F_page_of_line.mono (by decide))) (F__law_taken.mono (by decide)) (F__law_pick.mono (by decide)) (F__law_lay.mono (by decide)) (F__law_alike.mono (by decide)) (F_lines_of.mono (by decide)) (F_many_lines.mono (by decide)) (F_line_numbers.mono (by decide)) (F__law_broken.mono (by decide)) (F_entry_starts.mono (by decide)) (F_broken.mono (by decide)) (F_on_pages.mono (by decide)) (F_page_of_line.mono (by decide))
theorem law_fn {w : World} {K : PySem.W.Frag} {mg : Str → Option Value} {h : Heap} (X : K.In h) (G : h.Ns mainGlobals mg) (c : He.SaysX fa fn [] tf ex w h K) :
    ∃ fd : FuncData, (∀ (s : Shared) (u : Value), BindsTo s fd ⟨[u], []⟩ [("script", u)]) ∧ ∀ base : Heap, (∀ p ∈ tf.map (He.cT K), LamX.TabB base mg p.1 p.2) → AtCaller PRG w K mg base (L2.CX PRG w) (He.ga K "law") fd ["script"] (spLaw K (TT K)) := by
  have cd : He.SaysD fa fn K := c.t.d
  obtain ⟨cBN, cX⟩ := ba c.more
  obtain ⟨cB, cN⟩ := ba cBN
  have cN := of_decide_eq_true cN
  obtain ⟨fdL, FDL⟩ := fd_of cd dfl0 (i := 19) (by rw [fn_len]; decide) (d0 := dd0)
  refine ⟨fdL, fun s u => FDL.bindsA p_law s [u] rfl, fun base TB => ?_⟩
  have wok : WOk (WW w K mg base LcT.no) := ⟨fun x hx => free_all X G cd (l := bnames) (by decide) x hx, fun n cs v F => Iff.rfl⟩
  have FD := FDL
  have hf : He.fAd K (dd 19).at_ = He.ga K "law" := by rw [a_law]; rfl
  rw [hf] at FD
  obtain ⟨st, rest, eb⟩ : ∃ st rest, (dd 19).body = st :: rest := by
    cases e : (dd 19).body with
    | nil => have z := k_law0; rw [e] at z; cases z
    | cons a l => exact ⟨a, l, rfl⟩
  have z0 := k_law0
  have z1 := k_law
  rw [eb] at z0 z1 FD
  exact law_okG (W := WW w K mg base LcT.no) (k := 10) wok FD n_law (by decide) (lm_true (p := ("law", none)) FD (by first | rfl | (rw [a_law]; rfl)) (TB _ (List.mem_map.mpr ⟨("law", none), List.mem_of_getElem? (show tf[0]? = some (("law", none) : Str × Option Str) from rfl), rfl⟩)) (q' := "law.<locals>.<lambda>") (by kernel_rfl) (List.mem_of_getElem? (show (TT K)[0]? = some ((He.cT K ("law", none)).2, ("law.<locals>.<lambda>" : Str)) from rfl)) (tab_one cN (List.mem_of_getElem? (show (TT K)[0]? = some ((He.cT K ("law", none)).2, ("law.<locals>.<lambda>" : Str)) from rfl)))) z0 z1 (law_ok X G c base TB) plain ⟨rfl, by decide, by decide⟩
end LW
open PySem PySem.W PySem.Calls PyProof.Rows
theorem PySem.Challenge.cw_citedworks_k07_whole_lines_and_pages_holds : PySem.Challenge.rw_citedworks_k07_whole_lines_and_pages.Holds := by
  w_on; o_law
  refine HandSHeadRun.head_any (r := OpenLaw.row PySem.Challenge.rw_citedworks_k07_whole_lines_and_pages) (q := view (OpenLaw.row PySem.Challenge.rw_citedworks_k07_whole_lines_and_pages).prog [35]) (H := LW.hk) (ob := LW.ob) (M := 12000) (loose := LW.nms) (d := HandSHeadRun.topDef (OpenLaw.row PySem.Challenge.rw_citedworks_k07_whole_lines_and_pages).prog 35) (kwd := []) LW.ob_eq
    (by kernel_rfl) (fun s => by kernel_rfl) LW.run (by kernel_rfl) (by kernel_rfl) (by kernel_rfl) (by rfl) (by first | assumption | decide +kernel) (by decide +kernel) ⟨rfl, rfl, rfl, rfl, rfl, by decide +kernel⟩ ?hw ?hc
  case hw => w_witness2
  case hc =>
    refine DI.walk_ofG (l := PySem.Challenge.rw_citedworks_k07_whole_lines_and_pages) (n := 63) (x := "script") (CX := fun w => L2.CX LW.PRG w) rfl (by decide) (by kernel_rfl) ?F (fun w H s e s' ⟨_, _, _, _, _, _, _, _, _, _, _, _, z⟩ => z)
    intro w mg fa h Y G hmg0
    obtain ⟨K, KX, c⟩ := Y
    have hmg : mg ("law" : PySem.Str) = some (.ref fa) := by
      have e : (HandSHeadRun.topDef (OpenLaw.row PySem.Challenge.rw_citedworks_k07_whole_lines_and_pages).prog 35).name = ("law" : PySem.Str) := by kernel_rfl
      rw [← e]
      exact hmg0
    have e := hmg.symm.trans (He.glo_ok KX G (c.t.d.fact 18 (f := .glo "law") rfl))
    cases e
    obtain ⟨fd, hb, hF⟩ := LW.law_fn KX G c
    refine ⟨K, KX, fd, LW.tf.map (He.cT K), DI.spLaw K (LW.TT K), ?_, ?_, ?_, hb, ?_, fun base _ _ TB => hF base TB⟩
    · intro p hp
      obtain ⟨q, hq, rfl⟩ := List.mem_map.mp hp
      exact c.empty q hq
    · intro p hp
      obtain ⟨q, hq, rfl⟩ := List.mem_map.mp hp
      exact c.out q hq
    · intro p hp
      obtain ⟨q, hq, rfl⟩ := List.mem_map.mp hp
      exact PySem.W.codeHd_of_K KX (c.hd q hq)
    · intro H a ns h1 h2 h3 h4
      refine ⟨a, ns, rfl, h4, h1, h2, fun p hp => ?_, fun _ => rfl⟩
      obtain ⟨q, hq, e⟩ := LW.tt_in hp
      rw [e]
      exact h3 _ (List.mem_map.mpr ⟨q, hq, rfl⟩)
